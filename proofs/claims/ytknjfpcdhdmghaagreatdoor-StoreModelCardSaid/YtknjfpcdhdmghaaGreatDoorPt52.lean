/- Lemmas of the walk. Conditions: each its own. -/
import Derived.Test.YtknjfpcdhdmghaaGreatDoorPt48
import Derived.Test.YtknjfpcdhdmghaaGreatDoorPt49
set_option linter.all false
set_option maxRecDepth 100000
set_option maxHeartbeats 8000000
open Go.Proofs.Tryz
namespace Go.Proofs.YtknjfpcdhdmghaaGreatDoor
open Go.RowKit
def pU (d f c:Int) (a:Option Addr) (e b:Nat):Array Value:=#[.int .i64 d,.int .i64 f,.int .i64 c,.slice a e b]
def pF (a:Int):Prop:=-9223372036854775808<=a/\a<=9223372036854775807
def aBi (e:World) (f:Option Addr) (j g:Nat) (i:Ending) (k:World):Prop:=
 ∃b d a c,i=.returned (.agg (pU b d a f c g))/\c<=j/\pF b/\pF d/\pF a/\Below e.heap.size e k
def aAl {l e k g m d j c a b i} (u:k.getD 6 undef=.pointer (some g)) (r:Bk e g 32 (pU c a b i d j)) (t:d<=m) (n:pF c) (o:pF a) (q:pF b) (s:Below l.heap.size l e):
 bodyPost prog f17 (aBi l i m j) .ret ⟨k, []⟩ e:=
 bodyPost_ret (results_cell_row (P:=prog) (fn:=f17) (p:=6) (ty:=32) rfl k e g 32 (pU c a b i d j) (0,0) _ u r underlying32 rfl kR) rfl ⟨c,a,b,d,rfl,t,n,o,q,s⟩
def aMh {f i e:Int} (d) {a b:Nat} (o j:Nat) (c) (a3:o<=1000000) (Z:j<=1000000) (a2:a<=b) (Y:b<=maxLen) (t:0 < a->∃q r,d=some ⟨q,r,none⟩) (z:pF f) (A:pF i) (B:pF e):
 Calls prog 17 #[.agg #[(f:Int),(i:Int),(e:Int),.slice d a b],(o:Int),(j:Int)] c (aBi c d a b):=by
 obtain ⟨u,n⟩:=eqx c.heap.size;obtain ⟨s,p⟩:=eqx ((c.alloc (.cells #[(f:Int),(i:Int),(e:Int),.slice d a b] 32)).alloc (.cells #[o0,o0,o0,()] 32));have E:Bk s u 32 (pU f i e d a b):=by rw [<-p,<-n];exact (kd c _ _).alloc _
 have D:Bk s (u+1) 32 (pU 0 0 0 none 0 0):=by rw [<-p,<-n];have:=kd (c.alloc (.cells #[(f:Int),(i:Int),(e:Int),.slice d a b] 32)) 32 (pU 0 0 0 none 0 0);rw [sZ0] at this;exact this
 have C:Below u c s:=by rw [<-p,<-n];exact (bR.alloc nL _).alloc zs _
 have a0:((j:Int).tmod 7)=((j % 7:Nat):Int):=rfl;obtain ⟨R,O,Q,P,N,F,G,H⟩:=hqq8 n C E D p z A B;clear C E D p z A B;go_enter func17,ntmps17;by_cases X:j % 7=6
 .have I:(((j % 7:Nat):Int)==6)=true:=(by rw [zCr];omega);clear n;go_wp2_with fail;refine aAl (g:=c.heap.size+1) rfl ?_ (zAs a) F G H ((bR.alloc nL _).alloc zs _);have:=kd (c.alloc (.cells #[(f:Int),(i:Int),(e:Int),.slice d a b] 32)) 32 (pU f i e d a b);rw [sZ0] at this;exact this
 .have I:(((j % 7:Nat):Int)==6)=false:=(by rw [zCb];omega);obtain ⟨k,a4,K⟩:=nQ f 8 oM;obtain ⟨l,a5,L⟩:=nQ i ((o:Int)+1) oM;obtain ⟨m,a6,M⟩:=nQ e 7 oM;have S:IntKind.i64.wrap k=(k:Int):=zu;have T:IntKind.i64.wrap l=(l:Int):=zu;have U:IntKind.i64.wrap m=(m:Int):=zu;have V:IntKind.u64.wrap (o+1)=(o:Int)+1:=zv;have W:¬(o:Int)+1=0:=oM;have b1:pF (wrap64 (1+k)):=(by unfold pF wrap64;omega);have b2:pF (l:Int):=(by unfold pF;omega);have y:pF (m:Int):=(by unfold pF;omega);obtain ⟨v,w,x⟩:=hqq3 b1 b2 y;clear n K L M b1 b2 y;by_cases a1:6 < a
  .have J:=zy ((a:Int) > 6);obtain ⟨q,r,rfl⟩:=t oM;clear t;go_wp2_with fail;refine aAl (g:=c.heap.size+1) rfl ?_ (show 6<=a by omega) v w x ((bR.alloc nL _).alloc zs _);have:=kd (c.alloc (.cells #[.int .i64 (wrap64 (1+k)),(l:Int),(m:Int),.slice (some ⟨q,r,none⟩) 6 b] 32)) 32 (pU (wrap64 (1+k)) l m (some ⟨q,r,none⟩) 6 b);rw [sZ0] at this;exact this
  .have J:=zn ((a:Int) > 6);clear t;go_wp2_with fail;refine aAl (g:=c.heap.size+1) rfl ?_ (zAs a) v w x ((bR.alloc nL _).alloc zs _);have:=kd (c.alloc (.cells #[.int .i64 (wrap64 (1+k)),(l:Int),(m:Int),.slice d a b] 32)) 32 (pU (wrap64 (1+k)) l m d a b);rw [sZ0] at this;exact this
def aLd (e:Option Addr) (g f:Nat):Value->World->Prop:=λi _=>∃a d c b,i=.agg (pU a d c e b f)/\b<=g/\pF a/\pF d/\pF c
def aIv (a d b):Stb (aLd a d b):=λ_ _ _ c _=>c
def aM6 {e f i g k n aA c a own o} (b:StAt e i own g k aA n o) (l:e.heap.size<=c) (m:e.heap.size<=a) (b1:Bk f c 91 #[a,(aA:Int)]) (b2:Bk f a 89 #[()]):MdZ f own g c a aA []:=by
 have p:=b.a.lt;exact ⟨none,0,#[],⟨b1,b2,λj d=>(by cases d),Rd.nil _ _ _ _,zAs _,b.max⟩,⟨b.fresh l,by omega⟩,⟨b.fresh m,by omega⟩,λj d=>by cases d⟩
def aNW (c:Nat):Value->World->Prop:=λd _=>∃a b,d=.slice a c b
def aKl (b):Stb (aNW b):=λ_ _ _ a _=>a
def yT (aA c8 bb I U S J) (b1:Rd J J.heap.size 4 bb I (gE S)) (bI:S.length=I) (aV:∀P∈S,P.bf J) (bL:I<=U) (bz:U<=maxLen) (ap:TabW J):
 Calls prog 5 #[(aA:Int),(c8:Int),.slice bb I U] J λd aD=>d=.returned (.bool true)/\Below J.heap.size J aD:=by
 have cW:=ap.pos;obtain ⟨j,cL,cM⟩:=nQ aA 201 oM;obtain ⟨aj,cP,cQ⟩:=nQ c8 64 oM;have cv:IntKind.i64.wrap j=(j:Int):=zu
 have cw:IntKind.i64.wrap aj=(aj:Int):=zu
 have bo:IntKind.i64.wrap (1+aj)=((aj+1:Nat):Int):=zu
 obtain ⟨E,bQ⟩:=eqx (aj+1);rw [bQ] at bo;have dn:1<=E:=oM;have dp:E<=64:=oM;have dm:j<=200:=oM;obtain ⟨m,hB⟩:=eqx J.heap.size;have ao:0 < m:=oM;rw [hB] at b1;have bD:=λ(w1:World) (a2:Below m J w1)=>aFP U 60 (b1.below a2) bI (zAk bL bz) (λP bS=>zAk (aV P bS).2.2.2.2.1 (aV P bS).2.2.2.2.2);clear cW bz bL bQ cQ cM;go_enter func5,ntmps5;go_wp2_with fail;refine (nM j E J oM oM oM).mono ?_;rintro d w1 ⟨v,bp,c6,rfl,ah,aQ⟩;rw [hB] at ah aQ;clear cw bo cP;go_wp2_with fail;refine (aOY (j:Int) w1 oM oM).mono ?_;rintro d aE ⟨u,D,rfl,aR,bE,bF,_,af,ag⟩;have bt:=aM6 ah bE bF af ag;have bV:=ah.size;have bq:m<=D:=oM;have aa:=aQ.trans (aR.mono bV);have aH:=(ah.G (kb aR));have bC:=bD aE aa;clear aR bE bF af ag bV ah aQ bD cv cL;go_wp2_with fail;refine bC.mono ?_;clear bC;rintro d ca ⟨rfl,rfl⟩;cases bA:aDf S I 60 with
 | false=>
  go_wp2_with fail;refine (aA0 (ap.below aa ao)).mono ?_;rintro d ca ⟨rfl,ac⟩;have aG:=(aa.trans (ac.mono aH.size));clear ac;go_wp2_with fail;go_ret;exact ⟨rfl,by rw [hB];exact aG⟩
 | true=>
  obtain ⟨dl,cB⟩:=aCn bA;clear bA;go_wp2_with fail;go_loopw [12] (λy wr=>∃(b:Nat) (F:List UInt8) (own:Nat->Nat) (a9:Nat),b<=I/\y=.int .i64 b/\StAt wr m own v a9 j E F/\MdZ wr own v u D j F/\Below m J wr) (λy _=>I -(intOf y).toNat)
  case atStart=>exact ⟨0, [],c6,bp,zAp _,rfl,aH,bt,aa⟩
  case round=>
   clear aH bt aa bp c6;obtain ⟨b,F,own,a9,dk,rfl,Y,aw,a2⟩:=hrel;have bs:=Y.len;obtain ⟨K,V⟩:=eqx F.length;rw [V] at bs;have dh:K<=200:=oM;have b6:=Y.size;have a7:=a2;clear a2;by_cases cJ:b < I
   .obtain ⟨w,B,co,dj,ad⟩:=(b1.below a7).2 oM;subst co;obtain ⟨P,X⟩:∃P,S[b]?=some P:=⟨_,zAa (by rw [bI];exact cJ)⟩;have cF:=aV P (zAd X);have cR:=cB P (zAd X);obtain ⟨c0,c7,nd,s,ai,t,a6⟩:=P;have aJ:wr.cell? ⟨w,B+b*4,none⟩=some (.int .i64 c0):=ad (b*4+0) _ ((dF S b 0 _ X oM).trans rfl);have bk:wr.cell? ⟨w,B+b*4+1,none⟩=some (.int .i64 c7):=ad (b*4+1) _ ((dF S b 1 _ X oM).trans rfl);have bl:wr.cell? ⟨w,B+b*4+2,none⟩=some (.int .i64 nd):=ad (b*4+2) _ ((dF S b 2 _ X oM).trans rfl);have bm:wr.cell? ⟨w,B+b*4+3,none⟩=some (.slice s ai t):=ad (b*4+3) _ ((dF S b 3 _ X oM).trans rfl);have a3:=zFN wr _ aJ;obtain ⟨ak,al,am,a5,aW,aU⟩:=cF;simp only at ak al am a5 aW aU cR;rw [hB] at a5;have aZ:=λc=>aMh s K b c oM oM aW aU (λaN=>by obtain ⟨bg,c5,d,_⟩:=a5.2 aN;exact ⟨bg,c5,d⟩) ak al am;unfold aBi at aZ;have bX:∀c,Grow wr c->Calls prog 18 #[u] c λd aD=>∃ba bh,d=.returned (.slice ba K bh)/\Made aD c.heap.size 5 1 ba K bh (F.map bv)/\Below c.heap.size c aD:=λc x=>by obtain ⟨cb,cj,d4,Q,_⟩:=aw.below x;exact aIW (n:=K) cb cj F Q.mod (by rw [<-V];exact Q.pl) (by rw [<-V];exact Q.rd) nL oM
    have dq:(b:Int) < I:=oM;clear ad X ak al am;go_wp2_with fail;refine wp_region_any kR ?_;obtain ⟨a1,H⟩:=eqx wr.heap.size;rw [H] at a3;refine xN 10 [57,58,59,60,61,62,63,64,65,13] [is (.slice (some ⟨w,B,none⟩) I U),is (b:Int),is (.pointer (some ⟨w,B+b*4,none⟩)),is (.agg #[(c0:Int),(c7:Int),(nd:Int),.slice s ai t]),is u,aNW K,is (K:Int),is (b:Int),aLd s ai t,fresh a1 32 #[o0,o0,o0,()]] _ _ rfl dC kR kR (by repeat' (first | exact aGg _ | exact aKl _ | exact aIv _ _ _ | exact aIw _ _ _ |(refine zAe.2 ⟨?_,?_⟩)|(intro aC cO;cases cO))) ?_ ?_
    .refine bB<|pH3 2 (.slice (some ⟨w,B,none⟩) I U)<|pH3 12 (.int .i64 b)<|pW3 0 57 1 58<|sC3 (λ_ c a _ _ _ _ g _ _ _ e=>?_) ?_
     .have d6:_=_:=g 2 59 kR rfl;have ds:c.cell? ⟨w,B+b*4,none⟩=_:=(Below.cell (p:=⟨w,B+b*4,none⟩) a (by rw [H];exact a3)).trans aJ;have dt:c.cell? ⟨w,B+b*4+1,none⟩=_:=(Below.cell (p:=⟨w,B+b*4+1,none⟩) a (by rw [H];exact a3)).trans bk;have du:c.cell? ⟨w,B+b*4+2,none⟩=_:=(Below.cell (p:=⟨w,B+b*4+2,none⟩) a (by rw [H];exact a3)).trans bl;have dv:c.cell? ⟨w,B+b*4+3,none⟩=_:=(Below.cell (p:=⟨w,B+b*4+3,none⟩) a (by rw [H];exact a3)).trans bm;go_simp;exact e _ _ bR rfl
     refine pH3 10 (.pointer (some u))<|sC3 (λ_ c a _ _ _ _ g _ _ _ e=>?_) ?_
     .have d8:_=_:=g 4 61 kR rfl;have cU:=bX c ⟨a.os,a.tape,a.output,a.size,a.block⟩;go_simp;refine cU.mono ?_;rintro d b9 ⟨bc,bj,rfl,_,x⟩;exact e _ _ x ⟨bc,bj,rfl⟩
     refine sC3 (λo c _ _ _ _ _ g _ _ _ e=>?_) ?_
     .have cY:aNW K (o (.tmp 62)) c:=g 5 62 kR rfl;obtain ⟨bc,bj,d9⟩:=cY;go_simp;exact e _ _ bR rfl
     refine pH3 12 (.int .i64 b)<|sC3 (λ_ c _ _ _ _ _ g _ _ _ e=>?_) ?_
     .have d7:_=_:=g 3 60 kR rfl;have da:_=_:=g 6 63 kR rfl;have db:_=_:=g 7 64 kR rfl;go_simp;refine (aZ c).mono ?_;rintro d b9 ⟨z,C,A,r,rfl,Q,N,cz,cA,x⟩;exact e _ _ x ⟨z,C,A,r,rfl,Q,N,cz,cA⟩
     refine sC3 (λ_ c a _ _ _ _ _ _ _ _ e=>?_) ?_
     .have x:=Below.size a;have b2:a1<=c.heap.size:=(by rw [<-H];exact x);go_simp;exact e _ _ (bR.alloc nL _) (aLA b2)
     exact aB
    .intro o l M a g;have d1:aLd s ai t (o (.tmp 65)) l:=g 8 65 dC rfl;have d0:fresh a1 32 #[o0,o0,o0,()] (o (.tmp 13)) l:=g 9 13 dC rfl;simp only [zqq];clear g;obtain ⟨z,C,A,r,aK,af,cH,ag,bM⟩:=d1;obtain ⟨q,bn,bH,O⟩:=d0;unfold pU at aK;rw [aK,bn];replace a:Below wr.heap.size wr l:=gD a;change wpAny prog Region.Mode.any _ _ (1+M) (bT 10 11) _ l;rw [zCt 1 M];refine aY (f:=M) (i:=10) kR ?_;refine bJ rfl rfl ?_;generalize e:wpAny prog _ _ _ M _=K5;have d2:l.cell? q=some (.int .i64 0):=(O.cell 0).trans rfl;have cp:=O.frozen 0;have ak:l.cell? ⟨q,1,none⟩=some (.int .i64 0):=(O.cell 1).trans rfl;have cq:=O.frozen 1;have al:l.cell? ⟨q,2,none⟩=some (.int .i64 0):=(O.cell 2).trans rfl;have cr:=O.frozen 2;have am:l.cell? ⟨q,3,none⟩=some (.slice none 0 0):=(O.cell 3).trans rfl;have cs:=O.frozen 3;go_simp;subst e;refine bG kR ?_;have cT:=Y.G (kb a);have b4:a1<=l.heap.size:=(by rw [<-H];exact a.size);rw [show (((l.setCell q (.int .i64 z)).setCell ⟨q,1,none⟩ (.int .i64 C)).setCell ⟨q,2,none⟩ (.int .i64 A)).setCell ⟨q,3,none⟩ (.slice s r t)=zY l q z C A (.slice s r t) from rfl];obtain ⟨L,aq⟩:=eqx (zY l q z C A (.slice s r t));rw [aq];have aS:Below a1 l L:=(by rw [<-aq];exact aCR b4 bH _ _ _ _);have aT:Bk L q 32 #[(z:Int),(C:Int),(A:Int),.slice s r t]:=(by rw [<-aq];exact aID O _ _ _ _);have cG:=aT.lt;have au:Below wr.heap.size wr L:=a.trans (by rw [H];exact aS);have b5:=Y.G (kb au);obtain ⟨a0,a8,aI,aX,aP⟩:=aw.below au;have ab:=a7.trans (au.mono b6);have bw:Ap own v q:=⟨Y.fresh (by rw [H];exact bH),by have:=Y.a.lt;rw [H] at this;omega⟩;have bN:=aw.at.lt;rw [H] at bN;have cN:q≠D:=oM;have cS:a1<=L.heap.size:=zAk b4 aS.size;obtain ⟨G,k,N⟩:∃G k,doM F (j:Int) z C A (a6.take r)=(G,k):=⟨_,_,rfl⟩;have cE:a6.length=ai:=(by simpa using a5.1);have di:G.length<=j:=(by have:=aEZ F (a6.take r) j z C A (by rw [V];exact bs);rw [N] at this;exact this);have b0:k.places.length<=1099511627776:=(by have:=tJ F (a6.take r) (j:Int) z C A;rw [N] at this;have d:=V;simp only at this;omega);have ax:Rd J m 1 s r ((a6.take r).map bv):=(by have:=a5.cut_hi af;rw [zBl,<-zDw] at this;exact this);have a4:∀c,StAt c m own v a9 j E F->Below m L c->Calls prog 8 #[v,.agg #[(z:Int),(C:Int),(A:Int),.slice s r t]] c (StDone c m own v j E G k):=λc x az=>
      aFp t N x (ArgZ.H (ax.below (ab.trans az)) nL x.size) oM (ap.below (ab.trans az) ao) ao oM
     have bP:∀c,Md3 c u D j F a0 a8 aI->Below m L c->m<=c.heap.size->Calls prog 20 #[u,.agg #[(z:Int),(C:Int),(A:Int),.slice s r t]] c (aDY c u D (j:Int) G k):=λc x az b2=>
      aJJ t x.at bq (by rw [V];omega) ⟨(ax.below (ab.trans az)).mono b2,λaN d3 cD=>.inl (by
       obtain ⟨bg,c5,d,a2,_⟩:=ax.2 aN;rw [cD] at d;cases d;exact a2)⟩ ag bM (by simp only [zAj];omega) N
     have bf:=a4;obtain ⟨T,aO⟩:=eqx L.heap.size;rw [aO] at cS cG;have bd:Hid (MzC L m q T #[(z:Int),(C:Int),(A:Int),.slice s r t] L):=lhd ⟨aT,kg _ _,b5.size,zCv aO.symm⟩;have be:Hid (∀y,MzU 2 5 m v a9 u D own j E F a0 a8 aI y L):=lhd λy=>⟨λ_=>⟨b5,aX⟩,λ_=>aX⟩;have bO:D < T:=oM;clear cT b4 aq aS aT au b5 aX N cE ax a4 aO a O aK bn Y a7 aw b6 af cH ag bM d2 ak al am cp cq cr cs a3 H aZ bX a5 aJ bk bl bm aW aU bN;go_wp2_with fail;refine wp_region_any kR<|iG 6 [66,67,68,69,70,71] (MzC L m q T #[(z:Int),(C:Int),(A:Int),.slice s r t]) (MzS 2 5 m v D own j E G) (MzU 2 5 m v a9 u D own j E F a0 a8 aI) (Vs [is v,is (.agg #[(z:Int),(C:Int),(A:Int),.slice s r t]),MzA m v u D K T j E a0 G k,is u,is (.agg #[(z:Int),(C:Int),(A:Int),.slice s r t]),MzB m v u D T j E G k]) _ _ rfl dC kR kR bd.drew (λy=>(be y).drew) (λay w1 aE _ cy b=>cy.step b bw cN bq) ?_ ?_ ?_ ?_;intro y ay w1 aE _ av bY cV cC b;exact cV.step b aP av λd M=>by subst d;subst M;rw [show upB _ _ _ _ _=true from by kernel_rfl] at bY;cases bY
     .intro y ay c9 w1 aE _ av bu Z cC b;rcases y with _ | _ | _ | _ | _ | _ | y;exact Z;exact Z;by_cases bi:ay=5;exact MzA.keep Z (b.2.1 bi) bO;exact MzA.below Z (b.2.2 (λd=>av d.symm) bi);exact Z;exact Z
      .by_cases an:ay=2
       .subst an;rw [show aDt _ _ _ _=true from by kernel_rfl] at bu;cases bu
       exact MzB.below Z (b.2.2 an (λd=>av d.symm))
      exact trivial
     .refine bB<|sC3 (λo _ a R _ _ W _ _ _ _ e=>?_) ?_
      .have dg:o (.tmp 8)=.pointer (some v):=W 8 kR;clear R a;go_simp;exact e _ _ (aC6 dC dC bR) rfl
      refine sC3 (λo _ a _ _ _ W _ _ _ _ e=>?_) ?_
      .have cn:o (.tmp 13)=.pointer (some q):=W 13 kR;have a8:=a.1.cell 0;have U:=a.1.cell 1;have an:=a.1.cell 2;have ck:=a.1.cell 3;go_simp;exact e _ _ (aC6 dC dC bR) rfl
      refine sC3 (λ_ c a R _ _ _ g _ _ _ e=>?_) ?_
      .have dc:_=_:=g 0 66 kR rfl;have dd:_=_:=g 1 67 kR rfl;obtain ⟨x,cK⟩:=R.1 rfl;have a4:=bf c x a.2.1;have aF:=a.2.2.2;clear R a x;go_simp;refine a4.mono ?_;intro d b9 ae;cases d with
       | returned c9=>
        obtain ⟨Q,N⟩:=aOb (j1:=2) (j2:=5) dC cK aP V aF ae;exact e _ _ N Q
       | _=>obtain ⟨_,_,_,_,_,_,b7,_⟩:=ae;cases b7
      refine sC3 (λo _ a R _ _ W _ _ _ _ e=>?_) ?_
      .have d5:o (.tmp 10)=.pointer (some u):=W 10 kR;clear R a;go_simp;exact e _ _ (aC6 dC dC bR) rfl
      refine sC3 (λo _ a _ _ _ W _ _ _ _ e=>?_) ?_
      .have cn:o (.tmp 13)=.pointer (some q):=W 13 kR;have a8:=a.1.cell 0;have U:=a.1.cell 1;have an:=a.1.cell 2;have ck:=a.1.cell 3;go_simp;exact e _ _ (aC6 dC dC bR) rfl
      refine sC3 (λo c a R _ _ _ g _ _ _ e=>?_) ?_
      .have de:_=_:=g 3 69 kR rfl;have df:_=_:=g 4 70 kR rfl;have b8:MzA m v u D K T j E a0 G k (o (.tmp 68)) c:=g 2 68 kR rfl;have bK:=R.2 rfl;have a4:=bP c bK a.2.1 a.2.2.1;have aF:=a.2.2.2;clear R a;go_simp;refine a4.mono ?_;intro d b9 ae;cases d with
       | returned c9=>
        obtain ⟨Q,N⟩:=aOa (own:=own) (j1:=2) (j2:=5) dC bK V bO aF b8 ae;exact e _ _ N Q
       | _=>obtain ⟨⟨_,_,_,_,b7,_⟩,_⟩:=ae;cases b7
      exact aB
     .intro o l M br g;have b8:MzA m v u D K T j E a0 G k (o (.tmp 68)) l:=g 2 68 dC rfl;have cZ:MzB m v u D T j E G k (o (.tmp 71)) l:=g 5 71 dC rfl;simp only [zqq];clear g;obtain ⟨_,_,_,_,cc,cl,cd,cm,aL,c1,c2⟩:=b8;obtain ⟨cX,cx,b3,bZ,ce,ct,cf,cu,aM,c3,c4⟩:=cZ;unfold iD at aL aM;rw [aL,aM];have bx:=ab.trans br.2.1;have bU:=aMd k.code k.code k.num k.num cc ce cd cf k.data.length cl k.data.length ct k.places.length cm k.places.length cu l.heap.size l.heap.size l.heap.size l.heap.size k.data k.data k.places k.places l c1.rd c3.rd c2.rd c4.rd nL nL nL nL b0 b0;clear c1 c2 c3 c4 aL aM br bd be ab bf bP bw aP b0;change wpAny prog Region.Mode.any _ _ (2+M) (bT 6 8) _ l;rw [show 2+M=M+1+1 by omega];refine aY (i:=6) kR ?_;refine bJ rfl rfl ?_;generalize e:wpAny prog _ _ _ _ _=K5;go_simp;refine bU.mono ?_;rintro d dr ⟨rfl,ar⟩;subst e;refine aY (i:=7) kR ?_;refine bJ rfl rfl ?_;generalize e:wpAny prog _ _ _ _ _=K5;go_simp;subst e;refine bG kR ?_;have bW:=b3.size;have ch:=(b3.G (kb ar));have ci:=(bZ.below ar);have cg:=(bx.trans (ar.mono bW));clear ar bW b3 bZ bx bU
      try simp only [and_self,decide_true]
      go_wp2_with fail;go_roundw
      case rel=>exact ⟨b+1,G,cX,cx,by omega,by go_num,ch,ci,cg⟩
      case measure=>first |(simp [intOf];omega)| simp [intOf]
   .have cI:b=I:=oM;subst cI;go_wp2_with fail;refine (aA0 (ap.below a7 ao)).mono ?_;rintro d ca ⟨rfl,ac⟩;have aG:=(a7.trans (ac.mono b6));clear ac;go_wp2_with fail;go_ret;exact ⟨rfl,by rw [hB];exact aG⟩
end Go.Proofs.YtknjfpcdhdmghaaGreatDoor
