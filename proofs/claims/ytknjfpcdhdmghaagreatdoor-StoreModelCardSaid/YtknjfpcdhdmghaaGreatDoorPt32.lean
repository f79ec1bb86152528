/- Lemmas of the walk. Conditions: each its own. -/
import Derived.Test.YtknjfpcdhdmghaaGreatDoorPt30
import Derived.Test.YtknjfpcdhdmghaaGreatDoorPt31
set_option linter.all false
set_option maxRecDepth 100000
set_option maxHeartbeats 4000000
open Go.Proofs.Tryz
namespace Go.Proofs.YtknjfpcdhdmghaaGreatDoor
open Go.RowKit Go.Shelf Go
def TabW.bx {c d a own i} (b:TabW c) (g:LF a c d own i) (hB:0 < a):TabW d:=
 b.below (B:=0+1) (g.keep.e (by have:=b.pos;omega) λe k f=>by have j:a<=e:=f;omega) oM
def aLL {b:List Nat} {d c a e:Nat} (l:b[c]?=some e) (m:b[d]?=some a) (n:d≠c):b.Perm (e::aK (b.set c a) d):=by
 have g:=zX (s:=a) l;have i:(b.set c a)[d]?=some a:=by rw [zDr (λf=>n f.symm),m]
 have j:=fH i;have k:(a::b).Perm (e::a::aK (b.set c a) d):=g.symm.trans (j.symm.cons e);exact (k.trans (List.Perm.swap a e _)).cons_inv
def aAj {a b} (c:b≠a):bN b a=ush a b:=by
 unfold bN ush;split <;> split <;> omega
def aFM {w B own gl t rate} (a) (c5:LiveE w B own gl t rate) (ca:TabW w) (bf:0 < B) (cj:t.length<=895) (v:a < t.length) (bL:1<=rate) (cp:rate<=64):
 Calls prog 62 #[gl,(a:Int)] w (aD1 w B own gl (aK t a) rate):=by
 obtain ⟨gk,Q,cX,bd,i,E,q,aR,aF,_⟩:=c5;obtain ⟨e,a0⟩:∃e,t.length=e+1:=⟨t.length - 1,by omega⟩;have aj:=a0;rw [a0] at q aF cj v;have v:a<=e:=oM;obtain ⟨o,cb,cr⟩:=q.len a0;have C:=fA t;rw [a0] at C;obtain ⟨x,J⟩:=eqx (aG t);have c9:aG (aK t a)=aK x a:=by rw [aKf t oM,J]
 have aA:=C.len;have bp:∀b∈x,b < 257:=by rw [<-J];exact eX t
 rw [J] at C o aA;have D:=q.aa;rw [J] at D;have U:∀m,m<=e+1->m∈i:=λm cU=>D.mem oM;have aL:i.Nodup:=D.nodup;have aq:i.Perm (List.range (e+1+1)):=by have:=D.perm;rwa [aA] at this
 have aM:=aLc D C (at_:=a) v;obtain ⟨bP,V⟩:=aKC aq (at_:=a) v;have I:=aI3 aq C (at_:=a) v;have a6:ro i a≠ro i (a+1):=λc=>by have:=fL (U a oM) (U (a+1) oM) c;omega
 have bv:=qK D C (show 0 < a+1 by omega) (show a+1<=e+1 by omega);rw [zBb] at bv;obtain ⟨a1,A⟩:=bv;obtain ⟨d,a4⟩:=eqx (ro i a);obtain ⟨G,ak⟩:=eqx (ro i (a+1));have au:i[d]?=some a:=by rw [<-a4];exact cE (U a oM)
 have bM:i[G]?=some (a+1):=by rw [<-ak];exact cE (U (a+1) oM)
 have bG:d < e+2:=zj ((zAc.1 au).1)
 have bu:G < e+2:=zj ((zAc.1 bM).1)
 obtain ⟨P,bo⟩:=eqx ((aK i (ro i a)).map (ush a));rw [bo] at aM bP V I;rw [a4] at V I a6 a1;rw [ak] at I a6 a1 A;obtain ⟨Y,H⟩:=eqx (aH x i);rw [H] at I o a1 A;obtain ⟨N,aS⟩:=eqx (bS x a);rw [aS] at I;obtain ⟨ag,bw⟩:=eqx (x.getD a 0);rw [bw] at a1 A;have ai:Y[d]?=some N:=by rw [<-H,<-aS];unfold aH;rw [zAf,au];rfl
 have z:∀b∈Y,b < 257:=by rw [<-H];exact dR bp
 have cv:N < 257:=z N (zAd ai);have cf:ag < 257:=z ag (zAd A);have L:=q.live;rw [J,H] at L;have W:=q.ag;rw [J,H] at W;have ct:∀b∈Y.set G N,b < 257:=λb f=>by rcases zER f with n | n;exact z b n;omega
 have cu:(Y.set G N)[d]?=some N:=by rw [zDr (λc=>a6 c.symm),ai]
 have cw:bd.Perm (ag::aH (aK x a) P):=by rw [I];exact W.trans (aLL A ai a6)
 have a5:∀b∈E,(b.1≠d↔b.2≠a):=λb f=>by have n:=q.right b f;constructor;intro R c;rw [c] at n;have:=gR aL n;exact R (by rw [<-this,a4]);intro R c;rw [c,au] at n;injection n with n;exact R n.symm
 have cq:=q.c6;have co:∀b∈E,b.1≠d->P[bN b.1 d]?=some (bN b.2 a):=λb f ck=>by
  have n:=q.right b f;have R:=(a5 b f).1 ck;have S:b.2<=e+1:=by have:=aq.mem_iff.1 (zAd n);rw [zCj] at this;omega
  have be:ush a b.2<=e:=by unfold ush;split <;> omega
  have ah:=V (ush a b.2) be;rw [aGj R,gR aL n] at ah;rw [aAj R,<-ah];exact cE (aM.mem.2 be)
 have bJ:∀s,Smp E s->s<=e+1:=λs ⟨b,f,c⟩=>by have:=(L.perm.2.2 b f).2;omega
 have cm:=λ(c3:Nat->Prop) (c8:∀m,c3 m↔∃s,Smp E s/\s≠a/\m=ush a s)=>aGz aF aR bJ bL v c8;have cT:=L.q;obtain ⟨F,K⟩:∃F:Int,(if a=0 then -1 else ((ro i (a - 1):Nat):Int))=F:=⟨_,rfl⟩;have br:∀X,LiveM X B own gl gk Q rate 0 (e+1+1) (e+1+1) Y bd E->Calls prog 106 #[gl,(a:Int),(d:Int)] X λc aw=>c=.returned (.int .i64 F)/\VB B X aw:=λX ah=>by by_cases p:a=0;rw [zBx p] at K;subst p K;refine (qT d X gl).mono ?_;rintro c aw ⟨rfl,rfl⟩;exact ⟨rfl,VisK.refl _ _⟩;rw [zBw p] at K;obtain ⟨b1,b2⟩:=qK D C (show 0 < a by omega) oM;rw [H,a4] at b1 b2;have:=tR a ah oM b2 z oM oM;rw [mZ W,b1,K] at this;exact this
 have cc:aC4 F (d:Int)=aOf P a:=by
  rw [<-K];unfold aOf;by_cases p:a=0
  .rw [zBx p,zBx p,aEK]
  .rw [zBw p,zBw p,mX];have S:=V (a - 1) oM;rw [show sh a (a - 1)=a - 1 by unfold sh;rw [zBx oM]] at S;rw [S]
 have cg:ro P a=bN G d:=by have S:=V a v;rw [show sh a a=a+1 by unfold sh;rw [zBw oM],ak] at S;exact S
 have cd:-1000000<=F/\F<=1000000:=by rw [<-K];by_cases p:a=0;rw [zBx p];omega;rw [zBw p];have cW:ro i (a - 1) < i.length:=zDk.2 (U (a - 1) oM);omega
 have cl:a≠0->∃b∈E,b.1≠d:=λc6=>by obtain ⟨b,f,c⟩:=aR;exact ⟨b,f,(a5 b f).2 oM⟩
 have aI:=cD (L.g W).ai o oM;have c4:IntKind.i64.wrap ((e+1:Nat) - 1)=(e:Int):=zu
 have c1:=q.right;have c2:=q.aa;have b0:=L.a;have ce:(a:Int)<=e:=oM;obtain ⟨cO,c7⟩:=eqx (e+1);rw [c7] at aI c4;unfold aD1;clear q a0 aF aR D U C aq aL bo aS cr aA bJ a4 K ak bM bw bP V a6;go_enter func62,ntmps62;go_wp2_with fail;refine aI.mono ?_;clear aI;rintro c w1 ⟨rfl,rfl⟩;go_wp2_with fail;refine (aEa b0 oM ce).mono ?_;rintro c w1 ⟨rfl,rfl⟩;obtain ⟨al,aB⟩:=L.ah 0;clear b0 L;generalize w.setCell ⟨gl,3,none⟩ (.int .i64 0)=w1 at al aB⊢;have bQ:Calls prog 66 #[gl,(a:Int)] w1 λc aw=>c=.returned (.int .i64 d)/\VB B w1 aw:=by have ch:=al.g W;exact gP B gl gk Q rate w1 (by rw [aj,J];rw [H];exact ch) c1 c2 (by rw [aj];omega) au
 go_wp2_with fail;refine bQ.mono ?_;clear bQ;rintro c d1 ⟨rfl,aT⟩;have ac:=(al.b aT.1);have ax:=(aB.trans (LF.i (own:=own) aT));clear aT al aB;have r:=ac.a.cell 0;have bI:=tM (ac.walk.at W) A a1 z (by rw [o];omega) (ca.bx ax bf) bf;go_wp2_with fail;refine bI.mono ?_;clear bI;rintro c cL ⟨rfl,aU⟩;have ay:=(ac.b aU.1);have b3:=(ax.trans (LF.i (own:=own) aU));clear aU r ac ax;have bq:=br cL ay;clear br;go_wp2_with fail;refine bq.mono ?_;clear bq;rintro c X ⟨rfl,aV⟩;have ad:=(ay.b aV.1);have b4:=(b3.trans (LF.i (own:=own) aV));clear aV ay b3;obtain ⟨cR,cP,a3,a8⟩:=ad.gw;have r:=ad.a.cell 0;have M:=a3.cell 0;have a2:=eR G ag a8 (by rw [o];exact bu) (by have Z:=A;rw [zAa (by rw [o];exact bu)] at Z;injection Z) z (by rw [o];omega);clear a3 a8;go_wp2_with fail;refine a2.mono ?_;clear a2;rintro c d2 ⟨rfl,aW⟩;have ae:=(ad.b aW.1);have ab:=(b4.trans (LF.i (own:=own) aW));clear aW r M ad b4;obtain ⟨cS,cQ,a3,a8⟩:=ae.gw;have r:=ae.a.cell 0;have M:=a3.cell 0;have a2:=eR d N a8 (by rw [o];exact bG) (by have Z:=ai;rw [zAa (by rw [o];exact bG)] at Z;injection Z) z (by rw [o];omega);clear a3 a8;go_wp2_with fail;refine a2.mono ?_;clear a2;rintro c d3 ⟨rfl,aX⟩;have af:=(ae.b aX.1);have b5:=(ab.trans (LF.i (own:=own) aX));clear aX r M ae ab;have r:=af.a.cell 0;have bx:=lQ af.walk A cv z (by rw [o];omega);go_wp2_with fail;refine bx.mono ?_;clear bx;rintro c d4 ⟨rfl,cY,bg,bj⟩;obtain ⟨am,bB⟩:=af.I bg bj;have b6:=(b5.trans bB);clear bB bg bj r af b5;have r:=am.a.cell 0;have hcut:=iM am.walk cu ct (by rw [zAt,o];omega);go_wp2_with fail;refine hcut.mono ?_;clear hcut;rintro c d5 ⟨rfl,cF,bh,bk⟩;obtain ⟨an,bC⟩:=am.I bh bk;have b7:=(b6.trans bC);clear bC bh bk r am b6;have r:=an.a.cell 0;have bz:=nK an.walk cw cf (by rw [cb];omega);go_wp2_with fail;refine bz.mono ?_;clear bz;rintro c bW ⟨rfl,bi,bl⟩;obtain ⟨a7,bD⟩:=an.I bi bl;have b8:=(b7.trans bD);clear bD bi bl r an b7;have M:bW.cell? ⟨gl,1,none⟩=some (.pointer (some Q)):=(a7.a.cell 1).trans rfl;have bs:=a7.q;have bO:=aBg d a7.perm (λaz c=>(bs az oM).2) oM oM oM;clear bs;go_wp2_with fail;refine bO.mono ?_;clear bO;rintro c aY ⟨rfl,⟨d0,ao,bm⟩,bE⟩;obtain ⟨T,aC⟩:=a7.S bm bE;obtain ⟨cG,aP⟩:=eqx (eD cF bW.heap.size aY.heap.size 1);rw [aP,zBb] at T;rw [aP] at aC;have b9:=(b8.trans aC);clear aC bm bE M a7 b8 aP;have M:aY.cell? ⟨gl,1,none⟩=some (.pointer (some Q)):=(T.a.cell 1).trans rfl;have bt:=T.q;have bK:=aBh a T.perm (λaz c=>(bt az oM).2) oM oM oM (λb f bY cC c=>by
  obtain ⟨bX,cy,rfl⟩:=zAy.1 f;obtain ⟨bZ,cA,rfl⟩:=zAy.1 cC;rw [cq bX ((ao bX).1 cy).1 bZ ((ao bZ).1 cA).1 c])
 clear bt;go_wp2_with fail;refine bK.mono ?_;clear bK;rintro c aZ ⟨rfl,⟨bU,aJ,bn⟩,bF⟩;obtain ⟨bH,aD⟩:=T.S bn bF;obtain ⟨cZ,aQ⟩:=eqx (eD cG aY.heap.size aZ.heap.size 1);rw [aQ,zBb] at bH;rw [aQ] at aD;have ap:∀O,O∈bU.map (λb=>(b.1,bN b.2 a))↔∃b∈E,b.1≠d/\O=(bN b.1 d,bN b.2 a):=λO=>by
  constructor;intro aa;obtain ⟨bY,cz,rfl⟩:=zAy.1 aa;obtain ⟨cB,cV⟩:=(aJ bY).1 cz;obtain ⟨b,f,rfl⟩:=zAy.1 cB;obtain ⟨j,u⟩:=(ao b).1 f;exact ⟨b,j,u,rfl⟩
  .rintro ⟨b,j,u,rfl⟩;refine zAy.2 ⟨(bN b.1 d,b.2),(aJ _).2 ⟨zAy.2 ⟨b,(ao b).2 ⟨j,u⟩,rfl⟩,(a5 b j).1 u⟩,rfl⟩
 have cn:∀m,Smp (bU.map (λb=>(b.1,bN b.2 a))) m↔∃s,Smp E s/\s≠a/\m=ush a s:=λm=>by constructor;rintro ⟨O,aa,rfl⟩;obtain ⟨b,j,u,rfl⟩:=(ap O).1 aa;have a9:=(a5 b j).1 u;exact ⟨b.2,⟨b,j,rfl⟩,a9,aAj a9⟩;rintro ⟨_,⟨b,j,rfl⟩,a9,rfl⟩;exact ⟨_,(ap _).2 ⟨b,j,(a5 b j).2 a9,rfl⟩,aAj a9⟩
 have c0:=(b9.trans aD);clear aD bn bF M T b9 aQ aJ;have aN:=nO (G:Int) (d:Int) aZ oM;rw [mX] at aN;have aO:=nO F (d:Int) aZ cd;rw [cc] at aO;go_wp2_with fail;refine aN.mono ?_;clear aN;rintro c cM ⟨rfl,rfl⟩;go_wp2_with fail;refine aO.mono ?_;clear aO;rintro c cM ⟨rfl,rfl⟩;have ar:=qP ⟨aM,by have:=bH;rw [<-I] at this;exact this,zFU _,λO aa=>by
  obtain ⟨b,j,u,rfl⟩:=(ap O).1 aa;exact co b j u,λm=>Iff.rfl,λc6 c=>by
  obtain ⟨b,j,u⟩:=cl oM;have:=(ap _).2 ⟨b,j,u,rfl⟩;rw [c] at this;exact absurd this zDh,c0,⟨zFF 0,by omega⟩⟩ v oM (rS bp)
 rw [cg] at ar;unfold vH at ar;go_wp2_with fail;refine ar.mono ?_;clear ar;rintro c cN ⟨rfl,cH,bT,bc,bV,y⟩;have av:(aK t a).length=e:=by have:=cJ (l:=t) (k:=a) (by rw [aj];omega);have:=aj;omega
 have bR:TxM cN B cH gl gk Q rate bT (aG (aK t a)) (aH (aK x a) P) e bc bV:=by rw [c9];exact ⟨y.P.B,y.live,y.ag,y.right⟩
 have aE:=aFO bR av oM v bL cp (cm (Smp bV) λm=>(y.ci m).trans (cn m));unfold vT at aE;have ba:=y.lf;have bb:=y.bA;clear bR y;go_wp2_with fail;refine aE.mono ?_;clear aE;rintro c d6 ⟨rfl,cI,cK,cx,cs,ci,bA⟩;have ab:=(ba.trans bA);clear bA ba;go_wp2_with fail;go_ret;exact ⟨rfl,cI,⟨gk,Q,bT,aH (aK x a) P,bc,cK,by rw [av];exact cx,cs,by rw [av];exact ci,bb.1,by rw [av];have:=bb.2;omega⟩,ab⟩
def aHB (j:World) (a:Nat) (own:Nat->Nat) (b g aA i:Nat) (e:List UInt8) (f:Ending) (d:World):Prop:=
 f=.returned (.int .i64 0)/\∃c,StAt d a c b g aA i e/\LFS a b j d own c
def StAt.bl {k f b c g aA j own d p e} (a:StAt k b own c g aA j p) (n:LiveE f b d g e j) (i:LF b k f own d) (m:e.length<=895) (o:e.length<=aA):StAt f b d c g aA j e/\LFS b c k f own d:=
 ⟨⟨i.b.d a.a dC dC (λl=>l a.x),a.low,(i.H _ a.a.lt).trans a.x,n,m,o,a.max,a.r1,a.r2⟩,LFS.cr c i⟩
structure EdW (w W:World) (B:Nat) (own:Nat->Nat) (gs gl aA rate:Nat) (t:List UInt8) (kind p n:Int) (A:Option Addr) (m c:Nat):Prop where
 low:Below w.heap.size w W
 box:Bk W w.heap.size 32 #[(kind:Int),(p:Int),(n:Int),.slice A m c]
 st:StAt W B own gs gl aA rate t
 ap:Ap own gs w.heap.size
def EdW.mk' {a j own l k aA n o} (e i g b f c) (d:StAt a j own l k aA n o):
 EdW a (a.alloc (.cells #[(e:Int),(i:Int),(g:Int),.slice b f c] 32)) j own l k aA n o e i g b f c:=by
 have m:Below a.heap.size a (a.alloc (.cells #[(e:Int),(i:Int),(g:Int),.slice b f c] 32)):=bR.alloc nL _;exact ⟨m,kd a _ _,d.G (kb m),⟨d.fresh nL,by have:=d.a.lt;omega⟩⟩
def qL {d own e u aA y} (n) {m p} (l ab) {E o} (M j) {q} (A:StAt q d own e u aA y m) (H:m.length=n) (Z:ArgZ q d own e E o p) (aT:l<=n) (an:decide (aA < n+o)=j) (Y:j=false->n+o<=895):
 Calls prog 23 #[e,.agg #[(1:Int),(l:Int),(ab:Int),.slice E o M]] q λG av=>(j=true->G=.returned (.int .i64 3)/\VB d q av)/\(j=false->aHB q d own e u aA y (yQ m l p) G av):=by
 have a0:p.length=o:=by simpa using Z.1.1
 have r:=EdW.mk' 1 (l:Int) ab E o M A;have aN:=Z.b r.low;have aP:=LFS.j d e own r.low;have a4:=sD (B:=d) (own:=own) (gs:=e) (gl:=u) (aA:=aA) (rate:=y) (N:=n) (t:=m) l 0 r.st H;have ai:dK n (l:Int) 0=true:=zBz oM;rw [ai] at a4;have O:=r.box.cell 0;have aE:=r.box.cell 1;have aF:=r.box.cell 2;have X:=r.box.cell 3;have az:=r.low;have aR:=A.max;have aS:n<=aA:=zj A.len
 have aK:IntKind.i64.wrap (aA -n)=(aA:Int) -n:=zu
 have aM:decide ((o:Int) > aA -n)=j:=(decide_eq_decide.2 ⟨λ_=>by omega,λ_=>by omega⟩).trans an;have L:=r.st;have ac:=r.ap;have U:=r.box;clear A Z r ai aR aS;go_enter func23,ntmps23;go_wp2_with fail;refine a4.mono ?_;rintro G w1 ⟨rfl,rfl⟩;clear a4;go_wp2_with fail;generalize q.alloc (.cells #[(1:Int),(l:Int),(ab:Int),.slice E o M] 32)=w1 at*
 clear O aE aF X;have ad:=(λk (aa:VB d w1 k)=>(L.G aa.1).cb H);refine wp_region_any kR<|aQ (S:=(VB d)) (V:=(Vs [is q.heap.size,is (.int .i64 1),is (.bool true),is (.bool true),is (.pointer (some ⟨q.heap.size,3,none⟩)),is (.slice E o M),is (o:Int),is e,is e,is (.pointer (some ⟨e,1,none⟩)),is (aA:Int),is e,is e,is e,is u,is (n:Int),is (.int .i64 ((aA:Int) -n)),is (.bool j),is (.bool j),is (.bool j)])) [27,28,29,30,31,32,33,34,35,36,37,38,39,40,41,42,43,44,45,26] _ rfl kR vR (λ_ _=>VisK.trans) (dI tA0) ?_ ?_
 .refine aL<|pH 3 (.pointer (some q.heap.size))<|sC (λ_ k a _ _ _ b _ _ _ g=>?_) ?_
  .have b0:_=_:=b 0 27 kR rfl;replace a:(VB d) w1 k:=bD a;have J:=a.1.d U dC dC;have F:=J.cell 0;go_simp;exact g _ _ vR rfl
  refine pV 1 28<|pV 2 29<|gH 30 true 3 (.pointer (some q.heap.size))<|sG 30 true (λ_ k a _ _ _ b _ _ _ g=>?_) ?_
  .have b1:_=_:=b 4 31 kR rfl;replace a:(VB d) w1 k:=bD a;have J:=a.1.d U dC dC;have F:=J.cell 3;go_simp;exact g _ _ vR rfl
  refine gV 30 true 5 32<|gH 30 true 0 (.pointer (some e))<|gV 30 true 7 34<|gV 30 true 8 35<|sG 30 true (λ_ k a _ _ _ b _ _ _ g=>?_) ?_
  .have b3:_=_:=b 9 36 kR rfl;replace a:(VB d) w1 k:=bD a;have I:=a.1.d L.a dC dC;have F:=I.cell 1;go_simp;exact g _ _ vR rfl
  refine gH 30 true 0 (.pointer (some e))<|gV 30 true 11 38<|gV 30 true 12 39<|sG 30 true (λ_ k a _ _ _ b _ _ _ g=>?_) ?_
  .have b5:_=_:=b 13 40 kR rfl;replace a:(VB d) w1 k:=bD a;have I:=a.1.d L.a dC dC;have F:=I.cell 0;go_simp;exact g _ _ vR rfl
  refine sG 30 true (λ_ k a _ _ _ b _ _ _ g=>?_) ?_
  .have b6:_=_:=b 14 41 kR rfl;replace a:(VB d) w1 k:=bD a;go_simp;refine (ad k a).mono ?_;rintro G bh ⟨rfl,rfl⟩;exact g _ _ vR rfl
  refine sG 30 true (λ_ _ _ _ _ _ b _ _ _ g=>?_) ?_
  .have b4:_=_:=b 10 37 kR rfl;have b7:_=_:=b 15 42 kR rfl;go_simp;exact g _ _ vR (by first | rfl | exact congrArg (Value.int .i64) aK)
  refine sG 30 true (λ_ _ _ _ _ _ b _ _ _ g=>?_) ?_
  .have b2:_=_:=b 6 33 kR rfl;have b8:_=_:=b 16 43 kR rfl;go_simp;exact g _ _ vR (by first | rfl | exact congrArg Value.bool aM)
  refine pW 3 30 17 44<|pV 18 45 ?_;exact aB
 .intro z x a b;replace a:(VB d) w1 x:=bD a;have ae:z (.tmp 26)=.bool j:=b 19 26 rfl;simp only [zqq];rw [ae];clear b;clear ae;cases j
  .have bd:=Y rfl;clear Y;have aU:=L.G a.1;have a6:=LFS.i e own a;have a2:=a.1.d U dC dC;have O:=a2.cell 0;have X:=a2.cell 3;have ay:=(aP.trans a6);have aw:=(aN.step a6);clear a6 a ad;go_wp2_with fail;clear O X;go_loopw [6,7,65] (λ_ _ T wr=>∃(c:Nat) (D:Nat->Nat),c<=o/\T=.int .i64 c/\StAt wr d D e u aA y (yQ m l (p.take c))/\LFS d e x wr own D) (λ_ _ T _=>o -(intOf T).toNat)
   case atStart=>exact ⟨0,own,by omega,rfl,by rw [zDN,aLh];exact aU,LFS.refl _ _ _ _⟩
   case round=>
    obtain ⟨c,D,bf,rfl,v,C⟩:=hrel;have Q:l<=m.length:=(by rw [H];exact aT);by_cases am:c < o
    .obtain ⟨j,a1⟩:∃j,p[c]?=some j:=⟨_,zAa (by rw [a0];exact am)⟩;have aO:c < p.length:=(by rw [a0];exact am);have a8:(p.take c).length=c:=(by rw [zAj];omega);have a5:(yQ m l (p.take c)).length=n+c:=(by rw [uP (t:=m) _ Q,a8,H]);have P:=λk (aa:VB d wr k)=>aFL (w:=k) (B:=d) (own:=D) (gl:=u) (t:=(yQ m l (p.take c))) (rate:=y) (l+c) j (v.G aa.1).live (by rw [a5];omega) (by rw [a5];omega) v.r1 v.r2;have a7:=aLi (t:=m) (p.take c) j Q;rw [a8] at a7;have ao:p.take (c+1)=p.take c++ [j]:=(by rw [zAv,a1];rfl);unfold aD1 at P;rw [a7,<-ao] at P;obtain ⟨aD,aV,rfl,be,ah⟩:=((aw.step C).1).2 oM;have aZ:wr.cell? ⟨aD,aV+c,none⟩=some (.int .u8 j.toNat):=ah c _ (by rw [zAf,a1];rfl);have ag:=C.d a2 ac.x ac.ne dC dC;have O:=ag.cell 0;have aG:IntKind.i64.wrap (l+c)=((l+c:Nat):Int):=zu;have aj:(yQ m l (p.take (c+1))).length=n+(c+1):=(by rw [uP (t:=m) _ Q,zAj,H];omega);clear a7 ao a5 a8 a1 aO ah Q;go_wp2_with fail;refine wp_region_any kR<|cC (pre:=(λ_=>True)) (pJ:=(λK _=>K=.pointer (some u))) d 9 [83,84,85,86,87,88,89,90,91] (λ_=>False) 3 [] [is e,is e,is e,cO,is (.pointer (some ⟨q.heap.size,1,none⟩)),is (l:Int),is (c:Int),is (.int .i64 (l+c:Nat)),is (.int .u8 j.toNat)] _ rfl dC kR kR kR (trivial) (λ_ _ _ _ _=>trivial) (λ_ _ _ A _=>A) tA0 ?_ ?_
     .refine bB<|pH3 0 (.pointer (some e))<|pV3 0 83<|pV3 1 84<|sC3 (λ_ k a _ _ _ _ b _ _ _ g=>?_) ?_
      .replace a:VFB d (λ_=>False) wr k:=fD a;have b9:_=_:=b 2 85 kR rfl;have a9:=a.y (λ_ _ s=>s);have I:=a9.1.d v.a dC dC;have F:=I.cell 0;go_simp;exact g _ _ (lC (VFB.i vR)) rfl
      refine pH3 3 (.pointer (some q.heap.size))<|sC3 (λ_ k a _ _ _ _ b _ _ _ g=>?_) ?_
      .replace a:VFB d (λ_=>False) wr k:=fD a;have ba:_=_:=b 4 87 kR rfl;have a9:=a.y (λ_ _ s=>s);have J:=a9.1.d ag dC dC;have F:=J.cell 1;go_simp;exact g _ _ (aI vR) rfl
      refine pH3 6 (.int .i64 c)<|sC3 (λ_ _ _ _ _ _ _ b _ _ _ g=>?_) ?_
      .have bb:_=_:=b 5 88 kR rfl;have bc:_=_:=b 6 89 kR rfl;go_simp;exact g _ _ (aI vR) (by first | rfl | exact congrArg (Value.int .i64) aG)
      refine pH3 7 (.int .u8 j.toNat) ?_;exact aB
     .intro z x s a b af;replace a:VFB d (λ_=>False) wr x:=fD a;have aq:(λK _=>K=.pointer (some u)) (z (.tmp 86)) x:=b 3 86 dC rfl;have aH:z (.tmp 90)=.int .i64 (l+c:Nat):=b 7 90 dC rfl;have aJ:z (.tmp 91)=.int .u8 j.toNat:=b 8 91 dC rfl;obtain ⟨aX,au⟩:=af 3 dC;have ar:(λK _=>K=.pointer (some u)) aX x:=au;clear au af;simp only [zqq];rw [aH];rw [aJ];clear b;have R:=a.y (λ_ _ s=>s);rw [show z (.tmp 86)=_ from aq];clear ar a aq;change wpAny prog Region.Mode.any _ _ (1+s) (bT 9 10) _ x;rw [zCt 1 s];refine aY (f:=s) (i:=9) kR ?_;refine bJ rfl rfl ?_;generalize g:wpAny prog _ _ _ s _=K5;go_simp;refine (P x R).mono ?_;rintro G bg ⟨rfl,aW,ak,al⟩;subst g;refine bG kR ?_;have a3:=(v.G R.1).bl ak al (by rw [aj];omega) (by rw [aj];have:=of_decide_eq_false an;omega);have aC:=a3.1;have W:=(C.trans ((LFS.i e D R).trans a3.2));clear a3 ak al R v C P;go_wp2_with fail;go_roundw
      case rel=>exact ⟨c+1,aW,by omega,by go_num,aC,W⟩
      case measure=>exact zr
    .obtain rfl:c=o:=oM;rw [zAg (by rw [a0];exact zAs _)] at v;have W:=(ay.trans C);clear C;go_wp2_with fail;go_ret;exact ⟨rfl,D,v,W⟩
  .have ax:=(VisK.trans (kc az) a);clear a Y;go_wp2_with fail;go_ret;exact ⟨rfl,ax⟩
def sR {c own e o aA x C d b g} (L a0 O) {q} (y:StAt q c own e o aA x d) (R:TabW q) (F:0 < c) (G:d.length=C) (aG:b+g<=C):
 Calls prog 23 #[e,.agg #[(2:Int),(b:Int),(g:Int),.slice L a0 O]] q (aHB q c own e o aA x (d.take b++d.drop (b+g))):=by
 have n:=EdW.mk' 2 (b:Int) (g:Int) L a0 O y;have au:=LFS.j c e own n.low;have X:=sD (B:=c) (own:=own) (gs:=e) (gl:=o) (aA:=aA) (rate:=x) (N:=C) (t:=d) b g n.st G;have a7:dK C (b:Int) (g:Int)=true:=zBz oM;rw [a7] at X;have P:=n.box.cell 0;have al:=n.box.cell 1;have Q:=n.box.cell 2;have am:=n.box.cell 3;have av:=y.n127;have ab:=y.len;rw [G] at av ab;have a5:=R.below n.low R.pos;have aj:=n.st;have a1:=n.ap;have a2:=n.box;clear y n a7 R;go_enter func23,ntmps23;go_wp2_with fail;refine X.mono ?_;rintro an w1 ⟨rfl,rfl⟩;clear X;go_wp2_with fail;generalize q.alloc (.cells #[(2:Int),(b:Int),(g:Int),.slice L a0 O] 32)=w1 at*
 clear P al Q am;refine wp_region_any kR<|aQ (S:=(VB c)) (V:=(Vs [is q.heap.size,is (.int .i64 2),is (.bool false),is (.bool false),is undef,is undef,is undef,is undef,is undef,is undef,is undef,is undef,is undef,is undef,is undef,is undef,is undef,is undef,is (.bool false),is (.bool false)])) [27,28,29,30,31,32,33,34,35,36,37,38,39,40,41,42,43,44,45,26] _ rfl kR vR (λ_ _=>VisK.trans) (dI tA0) ?_ ?_
 .refine aL<|pH 3 (.pointer (some q.heap.size))<|sC (λ_ s a _ _ _ l _ _ _ v=>?_) ?_
  .have ay:_=_:=l 0 27 kR rfl;replace a:(VB c) w1 s:=bD a;have U:=a.1.d a2 dC dC;have a3:=U.cell 0;go_simp;exact v _ _ vR rfl
  refine pV 1 28<|pV 2 29<|aD ?_ ?_;exact sK 30 false λ_=>vR;refine aD ?_ ?_;exact sK 30 false λ_=>vR;refine aD ?_ ?_;exact sK 30 false λ_=>vR;refine aD ?_ ?_;exact sK 30 false λ_=>vR;refine aD ?_ ?_;exact sK 30 false λ_=>vR;refine aD ?_ ?_;exact sK 30 false λ_=>vR;refine aD ?_ ?_;exact sK 30 false λ_=>vR;refine aD ?_ ?_;exact sK 30 false λ_=>vR;refine aD ?_ ?_;exact sK 30 false λ_=>vR;refine aD ?_ ?_;exact sK 30 false λ_=>vR;refine aD ?_ ?_;exact sK 30 false λ_=>vR;refine aD ?_ ?_;exact sK 30 false λ_=>vR;refine aD ?_ ?_;exact sK 30 false λ_=>vR;refine aD ?_ ?_;exact sK 30 false λ_=>vR;refine pW 3 30 17 44<|pV 18 45 ?_;exact aB
 .intro D u a l;replace a:(VB c) w1 u:=bD a;have a4:D (.tmp 26)=.bool false:=l 19 26 rfl;simp only [zqq];rw [a4];clear l;have ad:=aj.G a.1;have aa:=LFS.i e own a;have T:=a.1.d a2 dC dC;have P:=T.cell 0;have Q:=T.cell 2;have ai:=(au.trans aa);have ah:=(a5.G a F a5.pos);clear aa a a4;go_wp2_with fail;clear P Q;go_loopw [52] (λK wr=>∃(k:Nat) (A:Nat->Nat),k<=g/\K=.int .i64 k/\StAt wr c A e o aA x (d.take b++d.drop (b+k))/\LFS c e u wr own A) (λK _=>g -(intOf K).toNat)
  case atStart=>exact ⟨0,own,by omega,rfl,by rw [zBq,zAu];exact ad,LFS.refl _ _ _ _⟩
  case round=>
   obtain ⟨k,A,aE,rfl,r,z⟩:=hrel;by_cases aF:k < g
   .have ac:b+k < d.length:=(by rw [G];omega);have I:=cut_len d (p:=b) (j:=k) oM;have Y:=cut_len d (p:=b) (j:=k+1) oM;rw [G] at I Y;have H:=λs (g:VB c wr s)=>aFM (w:=s) (B:=c) (own:=A) (gl:=o) (t:=(d.take b++d.drop (b+k))) (rate:=x) b (r.G g.1).live ((ah.below (z.below ad.size) F).G g F (zj r.size)) F (by rw [I];omega) (by rw [I];omega) r.r1 r.r2;unfold aD1 at H;rw [aLM (t:=d) ac] at H;have aq:=z.d T a1.x a1.ne dC dC;clear I ac;go_wp2_with fail;refine wp_region_any kR<|cC (pre:=(λ_=>True)) (pJ:=(λE _=>E=.pointer (some o))) c 6 [54,55,56,57,58,59] (λ_=>False) 3 [] [is e,is e,is e,cO,is (.pointer (some ⟨q.heap.size,1,none⟩)),is (b:Int)] _ rfl dC kR kR kR (trivial) (λ_ _ _ _ _=>trivial) (λ_ _ _ y _=>y) tA0 ?_ ?_
    .refine bB<|pH3 0 (.pointer (some e))<|pV3 0 54<|pV3 1 55<|sC3 (λ_ s a _ _ _ _ l _ _ _ v=>?_) ?_
     .replace a:VFB c (λ_=>False) wr s:=fD a;have az:_=_:=l 2 56 kR rfl;have Z:=a.y (λ_ _ m=>m);have ar:=Z.1.d r.a dC dC;have a3:=ar.cell 0;go_simp;exact v _ _ (lC (VFB.i vR)) rfl
     refine pH3 3 (.pointer (some q.heap.size))<|sC3 (λ_ s a _ _ _ _ l _ _ _ v=>?_) ?_
     .replace a:VFB c (λ_=>False) wr s:=fD a;have aC:_=_:=l 4 58 kR rfl;have Z:=a.y (λ_ _ m=>m);have U:=Z.1.d aq dC dC;have a3:=U.cell 1;go_simp;exact v _ _ (aI vR) rfl
     exact aB
    .intro D u m a l a6;replace a:VFB c (λ_=>False) wr u:=fD a;have ae:(λE _=>E=.pointer (some o)) (D (.tmp 57)) u:=l 3 57 dC rfl;have ao:D (.tmp 59)=.int .i64 b:=l 5 59 dC rfl;obtain ⟨ax,ag⟩:=a6 3 dC;have af:(λE _=>E=.pointer (some o)) ax u:=ag;clear ag a6;simp only [zqq];rw [ao];clear l;have J:=a.y (λ_ _ m=>m);rw [show D (.tmp 57)=_ from ae];clear af a ae;change wpAny prog Region.Mode.any _ _ (1+m) (bT 6 7) _ u;rw [zCt 1 m];refine aY (f:=m) (i:=6) kR ?_;refine bJ rfl rfl ?_;generalize v:wpAny prog _ _ _ m _=K5;go_simp;refine (H u J).mono ?_;rintro an aH ⟨rfl,aw,a8,a9⟩;subst v;refine bG kR ?_;have W:=(r.G J.1).bl a8 a9 (by rw [Y];omega) (by rw [Y];have:=ab;omega);have ak:=W.1;have M:=(z.trans ((LFS.i e A J).trans W.2));clear W a8 a9 J r z H;go_wp2_with fail;go_roundw
     case rel=>exact ⟨k+1,aw,by omega,by go_num,ak,M⟩
     case measure=>exact zr
   .obtain rfl:k=g:=oM;have M:=(ai.trans z);clear z;go_wp2_with fail;go_ret;exact ⟨rfl,A,r,M⟩
def vY {u:Program} {b:Array Oper} {v:Exit->Act->World->Prop} {k:Region.Mode} (e:Nat) (y:List Nat) (l:Nat->Prop) (g:Nat) (E:List Nat) {s:World->Prop} (r:Value->World->Prop) (q:List (Value->World->Prop)) (p:Act) {m:World} (J:(b.toList.take e).filterMap (·.dst)=y) (M:e<=b.size) (L:kL k b p.tmps.size=true) (S:((List.range b.size).all λd=>decide (d < e)||(List.range e).all λa=>upB k b b.size d a)=true) (P:(E.all λa=>a==g||upB k b b.size g a)=true) (O:s m) (N:∀c i,s c->Keep l m c->Grow c i->s i) (I:Stb r) (Q:∀U∈q,tO l U) (R:∀j D,j < e->b[j]?=some D->dN u b v k (Keep l m) (yM l g) (λa c=>E.contains a=true->s c) (VsJ g r q) p j D) (K:∀(z:Operand->Value) c f,Keep l m c->(∀a x,a < e->((b[a]?).bind (·.dst))=some x->VsJ g r q a (z (.tmp x)) c)->(∀a,a < e->∃t,VsJ g r q a t c)->wpAny u k b v (b.size - e+f) (bT e b.size) (dJ z y p) c):
 wpAny u k b v b.size (Array.replicate b.size false) p m:=by
 refine xM J M L S (ke _ _) (λ_ _=>O) (λj c i _ G d=>G.trans (kZ d)) (λa j c i _ w T n H d B=>?_) (λa j t c i _ w _ o _ d=>?_) R K;by_cases C:j=g;exfalso;subst C;have A:=zBf.1 P a (by simpa using B);simp only [T,zGn,zCr] at A;exact w A;exact N c i (n B) H (d.2 C);unfold VsJ at o⊢;by_cases n:a=g;rw [zBx n] at o⊢;exact I t c i o (d.2 λF=>w (n.trans F.symm));rw [zBw n] at o⊢;exact zU Q a t c i o (kZ d)
def aMc (j:World) (a:Nat) (own:Nat->Nat) (b aA g:Nat) (i:List UInt8) (e:Ending) (d:World):Prop:=
 e=.returned (.int .i64 0)/\∃c f,StAt d a c b f aA g i/\LFS a b j d own c
def aA4 {r own b a6 M ak aA e} (B) {y} (s) {al d q g} (j:StAt g r own b a6 M ak al) (ag:IsSuf (aG d) q) (U:d.length<=895) (W:1<=e) (X:e<=64) (S:d.length<=aA) (T:aA<=2147483648) (K:(fC (aH (aG d) q) q aA e d.length).length=y) (V:Rd g g.heap.size 1 B y ((fC (aH (aG d) q) q aA e d.length).map bv)) (ac:y<=s) (ad:s<=maxLen):
 Calls prog 28 #[b,.slice B y s] g (aMc g r own b aA e d):=by
 have w:=aDJ B s aA g ag U W X S T (by rw [K];exact V) nL (by rw [K];exact ac) ad;rw [K] at w;unfold aBj at w;have C:=j;clear V j;go_enter func28,ntmps28;go_wp2_with fail;refine w.mono ?_;rintro au w1 ⟨n,rfl,⟨Z,Y⟩,x⟩;have aD:=x.1.size;have I:=x.1.d C.a dC dC;have Q:=C.a.lt;obtain ⟨u,af⟩:=eqx w1.heap.size;have m:Below w1.heap.size w1 (w1.alloc (.cells #[(aA:Int),(e:Int),(d.length:Int)] 115)):=bR.alloc nL _;have R:Bk (w1.alloc (.cells #[(aA:Int),(e:Int),(d.length:Int)] 115)) u 115 #[(aA:Int),(e:Int),(d.length:Int)]:=af ▸ kd _ _ _;have P:=I.below m I.lt;have D:=(Y.b (kb m));have a3:=(show ¬u=b by omega);clear Y w I;unfold uV;go_wp2_with fail;generalize a8:w1.alloc (.cells #[(aA:Int),(e:Int),(d.length:Int)] 115)=W1 at D m P R⊢;clear a8;refine wp_region_any kR<|vY 10 [18,19,20,21,22,23,24,25,26] (λa=>a=b) 7 [7] (λ_ z=>Bk z b 58 #[n,.int .i64 M]) [is b,is b,is n,is u,is (aA:Int),is b,is b,cO,is b,is (.pointer (some ⟨b,1,none⟩))] _ rfl dC kR kR kR (P) (λw1 z j _ ae=>kf j ae j.lt) (λ_ _ _ j ah=>kf j ah j.lt) tA1 ?_ ?_
 .refine bB<|pH3 0 (.pointer (some b))<|pH3 0 (.pointer (some b))<|pH3 5 (.pointer (some n))<|pH3 6 (.pointer (some u))<|sC3 (λ_ an l _ _ _ _ k _ _ _ o=>?_) ?_
  .replace l:Keep (λa=>a=b) W1 an:=kD l;have aw:_=_:=k 3 21 kR rfl;have ar:=(Keep.d l R a3).cell 0;go_simp;exact kq o rfl
  refine pV3 0 18<|pV3 5 23<|sC3 (λ_ _ _ a7 _ _ _ k _ _ _ o=>?_) ?_
  .have L:=a7 rfl;have ax:_=_:=k 6 24 kR rfl;have av:_=_:=k 2 20 kR rfl;have az:=L.frozen 0;have aq:=L.cell 0;go_simp;exact o (.bool true) _ (aW (ka (F:=λa=>a=b) (ke _ _) (p:=b) (.inl rfl) _)) (L.set 0 _)
  refine pV3 1 19<|pV3 8 25 ?_;exact aB
 .intro N A c l k O;replace l:Keep (λa=>a=b) W1 A:=kD l;have a4:N (.tmp 22)=.int .i64 aA:=k 4 22 dC rfl;have a5:N (.tmp 26)=.pointer (some ⟨b,1,none⟩):=k 9 26 dC rfl;simp only [zqq];rw [a4];rw [a5];clear k;obtain ⟨am,a0⟩:=O 7 dC;have aj:(λ_ z=>Bk z b 58 #[n,.int .i64 M]) am A:=a0;clear a0 O;have J:=aj;have ay:=J.frozen 1;have ap:=J.cell 1;have a2:=l;change wpAny prog Region.Mode.any _ _ (1+c) (bT 10 11) _ A;rw [zCt 1 c];refine aY (f:=c) (i:=10) kR ?_;refine bJ rfl rfl ?_;generalize o:wpAny prog _ _ _ c _=K5;go_simp;subst o;refine bG kR ?_;have v:Keep (λa=>a=b) W1 (A.setCell ⟨b,1,none⟩ (.int .i64 aA)):=a2.setCell (p:=⟨b,1,none⟩) (.inl rfl) _;have a9:=J.set 1 (.int .i64 aA);have ao:=v;have a1:=a9;have G:=C;go_wp2_with fail;go_ret;have aC:=m.size;have ab:=G.size;have aa:=D.q;have E:∀a,a < g.heap.size->Z a=0:=λa H=>zFi λc=>by have:=(aa a oM).1;omega
  refine ⟨rfl,Z,n,⟨a1,G.low,E _ Q,(D.bz v (λa c=>by have t:a=b:=c;subst t;exact E _ Q)).low ab,U,S,T,W,X⟩,⟨λa H c=>absurd (E a H) c,?_,?_⟩⟩;exact ((VisF.C x.1).trans' (VisF.C (kb m)) (λa _ c=>c)).trans' (VisF.O v) (λa _ c=>.inr c)
  .have ai:Keep (λa=>r<=a) g w1:=x.2.mono λa H c=>by have t:g.heap.size<=a:=c;show r<=a;omega
   exact (ai.trans (kF m)).trans (v.mono λa _ c=>by have t:a=b:=c;subst t;exact G.low)
end Go.Proofs.YtknjfpcdhdmghaaGreatDoor
