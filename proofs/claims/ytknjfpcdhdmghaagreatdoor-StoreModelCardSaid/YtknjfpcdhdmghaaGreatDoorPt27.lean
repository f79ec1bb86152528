/- Lemmas of the walk. Conditions: each its own. -/
import Derived.Test.YtknjfpcdhdmghaaGreatDoorPt25
import Derived.Test.YtknjfpcdhdmghaaGreatDoorPt26
set_option linter.all false
set_option maxRecDepth 100000
set_option maxHeartbeats 4000000
open Go.Proofs.Tryz
namespace Go.Proofs.YtknjfpcdhdmghaaGreatDoor
open Go.RowKit
def TpAt (j:World) (e f:Nat) (a:List UInt8) (i:Nat):Prop:=
 ∃d gk g c,IsSuf (aG a) d/\LiveG j e f gk g i (a.length+1) (aH (aG a) d) c/\(∀b∈c,d[b.1]?=some b.2)/\(∃b∈c,b.2=0)/\a.length<=895
def TpAt.b {e w' a b d c} (g:TpAt e a b d c) (l:Vis e w'):TpAt w' a b d c:=by
 obtain ⟨n,gk,f,m,i,j,k⟩:=g;exact ⟨n,gk,f,m,i,j.b l,k⟩
def VB.grow {l k w1 m} (b:VB l k w1) (a:Below k.heap.size w1 m):VB l k m:=
 ⟨⟨a.os.trans b.1.os,a.tape.trans b.1.tape,a.output.trans b.1.output,zAk b.1.size a.size,λd c i=>by
  rcases b.1.block d c i with n |⟨e,j,f,g⟩|⟨e,j,f,g⟩;exact .inl ((a.block d c).trans n);exact .inr (.inl ⟨e,j,f,g.below a c⟩)
  .exact .inr (.inr ⟨e,j,f,g.below a c⟩)⟩,
  ⟨a.os.trans b.2.os,a.tape.trans b.2.tape,a.output.trans b.2.output,zAk b.2.size a.size,λd c i=>(a.block d c).trans (b.2.block d c i)⟩⟩
def TpAt.mono {d B B' a c b} (f:TpAt d B a c b) (hB:B'<=B):TpAt d B' a c b:=by
 obtain ⟨l,gk,e,k,g,i,j⟩:=f;exact ⟨l,gk,e,k,g,i.mono hB,j⟩
def aHK (a:World) (c:TypeId) (b:Array Value) (d:Nat×Nat) (e:Nat) (f:b.size=e):Rd (a.alloc (.cells b c d)) (a.heap.size+1) 1 (some ⟨a.heap.size,0,none⟩) e b.toList:=by
 refine ⟨by simp [f],λ_=>⟨_,0,rfl,by omega,λi j g=>?_⟩⟩;rw [zBi,cell_of_row (a.alloc (.cells b c d)) a.heap.size i b c d (heap_alloc_new a _)];simpa using g
def kU (b:World) (a:Array Value) (d c:Nat):(convert 22 22 (.slice (some b.heap.size) d c)).run prog (b.alloc (.cells a 5))=.ok (.slice (some b.heap.size) d c) (b.alloc (.cells a 5 (a.size,a.size+1))):=
 Lib.run_convert_bytes_const (P:=prog) b 22 5 a d c underlying22 underlying5
def qE (b:List Nat) (c a:Nat):Array Value:=((b.take a).map sv++List.replicate (c - a) (Value.int .i64 0)).toArray
def aGP (b a):qE b a 0=Array.replicate a (Value.int .i64 0):=by
 unfold qE;apply zFs;simp
def aJa {a b} (c:a.length=b):qE a b b=(a.map sv).toArray:=by
 unfold qE;rw [zAg oM,zDK];simp
def aGQ {b a} (c) (d:b.length=a) (e:c<=a):(qE b a c).size=a:=by
 unfold qE;simp;omega
def aI9 {b} {c a e:Nat} (i:b.length=c) (d:b[a]?=some e):(qE b c a).setIfInBounds a (.int .i64 e)=qE b c (a+1):=by
 have j:=(zAc.1 d).1;apply zFs;unfold qE;rw [zFv,zAv,d];have f:c - a=(c -(a+1))+1:=oM;rw [f,List.replicate_succ];have g:((b.take a).map sv).length=a:=by rw [zBc,zAj];omega
 show List.set ((b.take a).map sv++(Value.int .i64 0::List.replicate (c -(a+1)) (Value.int .i64 0))) a _=_;rw [zEs _ _ oM,g,zDK,zAz,zCo];rfl
def kB (d:World) (f:Nat) (a:List Nat) (g:Ending) (e:World):Prop:=∃b c,g=.returned (.slice b a.length c)/\Made e d.heap.size 3 1 b a.length c (a.map sv)/\VB f d e
def aFe {f g e b} (x:WaveAt b f g e) (M:∀U∈e,U < 257) (D:e.length<=1000):
 Calls prog 201 #[g] b (kB b f e):=by
 have T:=x;obtain ⟨L,r,o,j,Q⟩:=x;obtain ⟨c,d⟩:=eqx e.length;rw [d] at j;have K:b.cell? ⟨g,9,none⟩=some (.int .i64 c):=(j.cell 9).trans (cK r c o).2.2.2.2.2.2.2.2.2.1;have w:b.cell? ⟨g,10,none⟩=some (.int .i64 o):=(j.cell 10).trans (cK r c o).2.2.2.2.2.2.2.2.2.2;have a1:=j.lt;have P:=pN c oM;have Hn:=D;rw [d] at D;clear Q;unfold kB;go_enter func201,ntmps201;go_wp2_with fail;have z:Bk (b.alloc (.cells (Array.replicate c (.int .i64 0)) 3)) b.heap.size 3 (qE e c 0):=by rw [aGP];exact kd _ _ _
 have G:VB f b (b.alloc (.cells (Array.replicate c (.int .i64 0)) 3)):=vR.alloc _;go_loopw [19] (λv wr=>∃a:Nat,a<=c/\v=.int .i64 a/\Bk wr b.heap.size 3 (qE e c a)/\VB f b wr) (λv _=>c -(intOf v).toNat)
 case atStart=>exact ⟨0,zAp _,rfl,z,G⟩
 case round=>
  obtain ⟨a,a0,rfl,y,l⟩:=hrel;clear z G P K w;have a2:=l.1.size;by_cases s:a < c
  .obtain ⟨m,F⟩:∃m,e[a]?=some m:=⟨_,zAa (by rw [d];exact s)⟩;go_wp2_with fail;refine (eR a m (T.b l.1) (by rw [d];exact s) (zAc.1 F).2 M Hn).mono ?_;rintro V J ⟨rfl,t⟩;have k:=t.1.d y dC dC;have u:=l.trans t;have Z:=k.lt;have X:=k.frozen a;have A:=k.set a (.int .i64 m);rw [aI9 d F] at A;have N:∃H,J.cell? ⟨b.heap.size,a,none⟩=some H:=⟨_,(k.cell a).trans (zAq (by rw [aGQ a d oM];exact s))⟩;obtain ⟨H,a3⟩:=N;have R:VB f b (J.setCell ⟨b.heap.size,a,none⟩ (.int .i64 m)):=⟨Vis.fresh u.1 (p:=⟨b.heap.size,a,none⟩) nL _,ka u.2 (p:=⟨b.heap.size,a,none⟩) (.inr nL) _⟩;clear k t u;go_wp2_with fail;go_roundw
   case rel=>exact ⟨a+1,by omega,by go_num,A,R⟩
   case measure=>exact zr
  .obtain rfl:a=c:=oM;have q:=y;rw [aJa d] at q;obtain ⟨I,i⟩:=l.1.Q j;have w:wr.cell? ⟨g,10,none⟩=some (.int .i64 I):=(i.cell 10).trans (cK r a I).2.2.2.2.2.2.2.2.2.2;have W:=i.frozen 10;have Y:=i.lt;have S:=l.trans (VB.N i L o);have E:=Bk.ne q i dC;have C:=q.m (p:=⟨g,10,none⟩) E (.int .i64 o);have O:=aAp (B:=b.heap.size) (n:=a) C nL (by rw [zBc];exact d) zx;clear q i C E;go_wp2_with fail;go_ret;exact ⟨_,_,by rw [d];rfl,by rw [d];exact O,S⟩
def aFh {d gk a c} (l:WalkAt c d gk a) (n:∀q∈a,q < 257) (g:a.length<=1000):
 Calls prog 143 #[gk] c (kB c d a):=by
 obtain ⟨u,t,e,f,m⟩:=l;have r:=e.cell 0;have b:=aFe f n g;unfold kB at b⊢;obtain ⟨v,i⟩:=eqx a.length;rw [i] at b⊢;clear e f m i g;go_enter func143,ntmps143;go_wp2_with fail;refine b.mono ?_;rintro s w ⟨j,k,rfl,o,p⟩;clear b;go_wp2_with fail;go_ret;exact ⟨j,k,rfl,o,p⟩
def vP {Bw gl gk gp N rate L g w} (b:LiveG w Bw gl gk gp rate N L g) (j:∀m∈L,m < 257) (d:L.length<=1000):
 Calls prog 76 #[gl] w (kB w Bw L):=by
 obtain ⟨p,c⟩:=b.a;have n:=c.cell 0;have a:=aFh b.walk j d;clear c;unfold kB at a⊢;obtain ⟨q,e⟩:=eqx L.length;rw [e] at a⊢;clear b e d;go_enter func76,ntmps76;go_wp2_with fail;refine a.mono ?_;rintro o r ⟨f,i,rfl,k,l⟩;clear a;go_wp2_with fail;go_ret;exact ⟨f,i,rfl,k,l⟩
def oW {Bw gl gk gp e rate L c w} (a:LiveG w Bw gl gk gp rate e L c):
 Calls prog 77 #[gl] w λd f=>d=.returned (.int .i64 rate)/\w=f:=by
 obtain ⟨i,b⟩:=a.a;have g:=b.cell 2;clear a b;go_enter func77,ntmps77;go_wp2_with fail;go_ret;exact ⟨rfl,rfl⟩
def aNN (a):a.map sv=(jC a).map iv:=by
 unfold jC;rw [zCh];rfl
def gJ (d:World) (f:Nat) (a:List UInt8) (g:Ending) (e:World):Prop:=
 ∃b c,g=.returned (.tuple #[.slice b a.length c,o0])/\Made e d.heap.size 5 1 b a.length c (a.map bv)/\VB f d e
def vF {Bw gl gk gp rate aA t rs C w} (u:LiveG w Bw gl gk gp rate (t.length+1) (aH (aG t) rs) C) (bA:∀m∈C,rs[m.1]?=some m.2) (x:IsSuf (aG t) rs) (bo:t.length<=895) (bw:1<=rate) (cI:rate<=64) (ca:t.length<=aA) (cA:aA<=2147483648):
 Calls prog 31 #[gl,(aA:Int)] w (gJ w Bw (fC (aH (aG t) rs) rs aA rate t.length)):=by
 obtain ⟨bM,bf,bJ,bK,bL⟩:=info_parts mB;obtain ⟨f,ap⟩:=eqx (aH (aG t) rs);have J:=dR (rs:=rs) (eX t);have I:f.length=t.length+1:=by rw [<-ap,bY,x.len,aO]
 have bz:∀e w1,VB Bw w w1->e*rate<=t.length->Calls prog 66 #[gl,.int .i64 (e*rate:Nat)] w1 λg cr=>g=.returned (.int .i64 (rs.idxOf (e*rate):Nat))/\VB Bw w1 cr:=λe w1 o bg=>by have cc:e*rate∈rs:=x.mem (by rw [aO];omega);exact gP (t:=t) (rs:=rs) (C:=C) (i:=(rs.idxOf (e*rate))) (p:=(e*rate)) Bw gl gk gp rate w1 (u.b o.1) bA x bo (zAc.2 ⟨zDk.2 cc,zFl _⟩)
 rw [ap] at u J⊢;obtain ⟨d,b7⟩:=eqx t.length;have c7:∀m,rs.idxOf m<=896:=λm=>by have:=List.idxOf_le_length (a:=m) (l:=rs);rw [x.len,aO] at this;omega
 have a4:=vP (Bw:=Bw) (gl:=gl) (gk:=gk) (gp:=gp) (N:=(t.length+1)) (rate:=rate) (L:=f) (w:=w) u J oM;unfold kB at a4;rw [b7] at I bz ca bo⊢;rw [I] at a4;have c9:=u.ai;have cj:=aAz J;have bd:=oK f;rw [I] at bd;have cs:=J;have co:¬aA < d:=oM;have cT:=zBy co;have cp:¬((aA:Int) > 2147483648):=oM;have cU:=zBy cp;have cQ:0 < w.heap.size:=zDF (zAp _) u.lt;clear bA J ap x b7;unfold gJ;go_enter func31,ntmps31;go_wp2_with fail;refine (cD (B:=Bw) (gl:=gl) (n:=d) (w:=w) c9 I oM).mono ?_;rintro g w1 ⟨rfl,rfl⟩;go_wp2_with fail;refine a4.mono ?_;clear a4;rintro g w1 ⟨bQ,bZ,rfl,bi,aI⟩;have aF:=aHq (B:=w1.heap.size) (w:=w1) bQ (d+1) bZ (jC f) (by rw [<-aNN];exact bi.rd) nL oM;rw [cj] at aF;clear bi;go_wp2_with fail;refine aF.mono ?_;clear aF;rintro g y ⟨ci,b8⟩;obtain ⟨b5,aL,b6,S,rfl,ax⟩:=ci.resolve_right (λ⟨ce,_⟩=>by cases ce);injection S with S;obtain ⟨aa,a3⟩:=eqx ((gS f).length);rw [<-S,a3] at ax;rw [<-S,a3];rw [a3] at bd;have V:VB Bw w y:=aI.below b8;have aY:=(ax.mono (B':=w.heap.size) aI.1.size);clear b8 S ax aI;go_wp2_with fail;go_loopw [8,9] (λcq a9 wr=>∃e q:Nat,e<=d / rate+1/\a9=.int .i64 (e*rate:Nat)/\wr.ownsRow y.heap.size 5 1 cq q ((uC rs rate e).map bv)/\VB Bw y wr) (λ_ a9 _=>(d+65 -(intOf a9).toNat))
 case atStart=>exact ⟨0,0,zAp _,by simp,ki _ _ _ _,VisK.refl _ _⟩
 case round=>
  obtain ⟨e,q,bg,rfl,K,o⟩:=hrel;have cG:q<=12000:=by have c3:=K.1;have ct:=pM rs rate e;have cu:d / rate<=d:=zDZ _ _;simp at c3;omega
  obtain ⟨M,aC⟩:=eqx (e*rate);have W:=V.trans o;have a5:=cD (B:=Bw) (gl:=gl) (n:=d) (w:=wr) (u.b W.1).ai I oM;have cN:=W.1.size;have cO:=o.1.size;by_cases J:M<=d
  .have a7:=bz e wr W oM;have bp:=qZ rs rate e;obtain ⟨m,aJ⟩:=eqx (rs.idxOf (e*rate));have cR:m<=896:=(by rw [<-aJ];exact c7 _);have cd:=aK8 bw (by omega:e*rate<=d);have ch:(e+1)*rate=M+rate:=(by rw [Nat.add_mul,aC,Nat.one_mul]);rw [aJ] at a7 bp;rw [aC] at a7;rw [aC];obtain ⟨ab,bh⟩:=eqx ((bW m).length);have cz:ab<=11:=(by rw [<-bh];exact bX m);have cF:M<=895:=oM;clear W aJ;go_wp2_with fail;refine a5.mono ?_;clear a5;rintro g O ⟨rfl,rfl⟩;go_wp2_with fail;refine a7.mono ?_;clear a7;rintro g O ⟨rfl,a8⟩;have bt:=a8.1.own K dC dC;have bI:=o.trans a8;have cP:=a8.1.size;clear a8 K o;go_wp2_with fail;refine (aBd (l:=[m]) (bs:=(bW m)) (k:=ab) _ (tH m) bh (Rd.made _ _ 1 1 _ rfl) nL zt oM).mono ?_;rintro g j ⟨P,Q,rfl,U,R⟩;have r:=((kg O.heap.size O).alloc nL (.cells #[.int .u64 m] 69)).trans (R.mono zs);have D:j.ownsRow y.heap.size 5 1 u8 q ((uC rs rate e).map bv):=aP (bt) r;have bC:=r.size;have Y:=U.rd;have al:=(jI (bW m));have bG:=bI.below r;have bD:y.heap.size<=j.heap.size:=oM;clear U R r bt bI;go_wp2_with (at_builtin;refine bE _ rfl (.tmp 41) (.tmp 47) _ rfl y.heap.size 5 bM (.int .u8 0) 1 1 underlying22 bf bJ bK bL rfl dC u8 q _ rfl D j.heap.size P ab Q _ rfl Y al zx oM bD ?_;intro cX aK cg be c5);have s:=aX (kg y.heap.size j) D be bD;have bH:=VB.grow bG s;clear D be c5 s bG;have bx:=oW (Bw:=Bw) (gl:=gl) (gk:=gk) (gp:=gp) (rate:=rate) (L:=f) (w:=aK) (u.b (V.trans bH).1);go_wp2_with fail;refine bx.mono ?_;clear bx;rintro g bO ⟨rfl,rfl⟩;have cw:IntKind.i64.wrap (M+rate)=((M+rate:Nat):Int):=zu;go_wp2_with fail;go_roundw
   case rel=>
    refine ⟨e+1,q+ab,cd,?_,?_,bH⟩
    .rw [ch]
     first | rfl | exact cS oM
    rw [bp,zAz];exact cg
   case measure=>exact zr
  .go_wp2_with fail;refine a5.mono ?_;clear a5;rintro g O ⟨rfl,rfl⟩;have c8:=aOj bw bg oM;subst c8;rw [<-zB] at K;clear W;go_wp2_with fail;refine (oW (Bw:=Bw) (gl:=gl) (gk:=gk) (gp:=gp) (rate:=rate) (L:=f) (w:=wr) (u.b (V.trans o).1)).mono ?_;rintro g O ⟨rfl,rfl⟩;go_wp2_with fail;refine (cD (B:=Bw) (gl:=gl) (n:=d) (w:=wr) (u.b (V.trans o).1).ai I oM).mono ?_;rintro g O ⟨rfl,rfl⟩;go_wp2_with fail;obtain ⟨X,aw⟩:=eqx ((dZ [aA,rate,d]).length);have cy:X<=33:=(by rw [<-aw];have:=aAD [aA,rate,d];simpa using this);refine (aBd (l:=[aA,rate,d]) (bs:=(dZ [aA,rate,d])) (k:=X) _ rfl aw (Rd.made _ _ 1 3 _ rfl) nL zt oM).mono ?_;rintro g j ⟨P,Q,rfl,U,R⟩;have r:=((kg wr.heap.size wr).alloc nL (.cells #[.int .u64 aA,.int .u64 rate,.int .u64 d] 69)).trans (R.mono zs);have bC:=r.size;have D:j.ownsRow y.heap.size 5 1 u8 q ((yO rs rate d).map bv):=aP (K) r;have br:j.ownsRow w.heap.size 5 1 (.slice aL aa b6) aa ((gS f).map bv):=aP (o.1.own aY.own dC dC) r;obtain ⟨bT,c2,rfl,bk⟩:=aR D;have aZ:=bk.rd;have b3:=(Rd.s br);have Y:=U.rd;have b4:=((V.trans o).below r);have bu:(yO rs rate d).length=q:=(by have:=D.1;simpa using this);clear U R r D br bk K aY o;have cn:=kU j;go_wp2_with fail;have a6:=aHK j 5 #[.int .u8 83,.int .u8 75,.int .u8 82,.int .u8 49] (4,5) 4 rfl;obtain ⟨F,a2⟩:=eqx j.heap.size;rw [a2] at a6;have s:Below j.heap.size j (j.alloc (.cells #[.int .u8 83,.int .u8 75,.int .u8 82,.int .u8 49] 5 (4,5))):=(kg j.heap.size j).alloc nL _;have cl:(j.alloc (.cells #[.int .u8 83,.int .u8 75,.int .u8 82,.int .u8 49] 5 (4,5))).heap.size=F+1:=(by simp [a2]);have Z:=b3.below s;have a0:=aZ.below s;have a1:=Y.below s;have aq:=b4.below s;rw [a2] at Z a0 a1 s bC⊢;generalize j.alloc (.cells #[.int .u8 83,.int .u8 75,.int .u8 82,.int .u8 49] 5 (4,5))=aK at a6 s cl Z a0 a1 aq⊢;clear s b3 aZ Y b4 a2 cn;have cv:d / rate<=d:=zDZ _ _;have ck:=pM rs rate (d / rate+1);rw [<-zB,bu] at ck;have cH:q<=12000:=oM;obtain ⟨ac,ay⟩:=eqx ((eE (gS f)).length);obtain ⟨ad,az⟩:=eqx ((eE (yO rs rate d)).length);have cB:ac<=30000:=(by rw [<-ay,kW,a3];have:=bX aa;omega);have cC:ad<=30000:=(by rw [<-az,kW,bu];have:=bX q;omega);have aD:=vG (A:=aL) (n:=aa) (B:=F) (b:=(gS f)) (w:=aK) b6 Z oM oM;rw [ay] at aD;refine aD.mono ?_;clear aD;rintro g bO ⟨ae,am,rfl,bl,G⟩;have cJ:=G.size;have b1:=(a6.below (G.mono oM));have aM:=(a0.below (G.mono oM));have aN:=(a1.below (G.mono oM));have aS:=bl.rd;have aW:=(aq.below G);clear G bl a6 Z a0 a1 aq;go_wp2_with fail;have aE:=vG (A:=bT) (n:=q) (B:=F) (b:=(yO rs rate d)) (w:=bO) c2 aM oM oM;rw [az] at aE;refine aE.mono ?_;clear aE;rintro g v ⟨af,an,rfl,bm,H⟩;have cK:=H.size;have b2:=(b1.below (H.mono oM));have aQ:=(aN.below (H.mono oM));have aT:=(aS.below H);have aU:=bm.rd;have ah:=(aW.below H);clear H bm b1 aM aN aS aW;go_wp2_with fail;obtain ⟨z,av⟩:=eqx (qI f rs aA rate d);obtain ⟨E,aB⟩:=eqx z.length;have cE:E<=100000:=by rw [<-aB,<-av];unfold qI;rw [zAi,zAi,zAi,aw,ay,az];have:gA.length=4:=rfl;omega
   have bc:=oX (A0:=(some ⟨v.heap.size,0,none⟩)) (m0:=4) (B:=(v.heap.size+1)) (ss:=[⟨some ⟨F,0,none⟩,4,4,gA⟩,⟨P,X,Q,dZ [aA,rate,d]⟩,⟨ae,ac,am,eE (gS f)⟩,⟨af,ad,an,eE (yO rs rate d)⟩]) (T:=z) (N:=E) (w:=(v.alloc (.cells #[.slice (some F) 4 4,.slice P X Q,.slice ae ac am,.slice af ad an] 22))) 4 (by rw [<-av];unfold qI;simp [iV]) aB ((Rd.made v _ 1 4 _ rfl).mono zs) (by
    intro cV x;simp at x;rcases x with rfl | rfl | rfl | rfl;exact ((b2.mono (B':=v.heap.size) oM).alloc nL _).mono oM;exact ((aQ.mono (B':=v.heap.size) oM).alloc nL _).mono oM;exact ((aT.mono (B':=v.heap.size) oM).alloc nL _).mono oM
    .exact (aU.alloc nL _).mono oM) zs oM oM
   refine bc.mono ?_;clear bc;rintro g bP ⟨ag,ao,rfl,bn,ba⟩;have b9:=((kg v.heap.size v).alloc nL (.cells #[.slice (some F) 4 4,.slice P X Q,.slice ae ac am,.slice af ad an] 22)).trans (ba.mono zs);have ai:=(ah.below b9);have cL:=ai.1.size;have ak:=(bn.mono (B':=w.heap.size) (by simp;have:=ah.1.size;omega));clear bn ba b9 ah b2 aQ aT aU;go_wp2_with fail;refine (xL (A:=ag) (n:=E) (c:=ao) (b:=z) _ ((ak.rd.alloc oM _).mono zs) oM (Rd.made _ _ 1 1 _ rfl)).mono ?_;rintro g cZ ⟨rfl,bb⟩;have au:=((kg bP.heap.size bP).alloc nL (.cells #[.slice ag E ao] 22)).trans (bb.mono zs);have b0:=(ak.below au);have aj:=(ai.below au);have cM:=aj.1.size;clear bb au ak ai;go_wp2_with fail;refine (aCI (lP z) _).mono ?_;rintro g bN ⟨bR,c0,rfl,bj,ar⟩;have bV:=(b0.below ar);have aV:=(aj.below ar);have bB:=aV.1.size;have bU:=bj.rd;have bq:=bV.own;have al:=(jI (nD (lP z)));clear bj ar b0 aj;go_wp2_with (at_builtin;refine bE _ rfl (.tmp 68) (.tmp 72) _ rfl w.heap.size 5 bM (.int .u8 0) 1 1 underlying22 bf bJ bK bL rfl dC (.slice ag E ao) E _ rfl bq bN.heap.size bR 4 c0 _ rfl bU al zx oM bB ?_;intro cW cY cf c6 cx);have c4:=VB.grow aV (aX (kg w.heap.size bN) bq c6 bB);obtain ⟨bS,c1,rfl,cb⟩:=aR cf;go_ret2;have bF:fC f rs aA rate d=z++nD (lP z):=(by unfold fC;rw [av]);have cm:(fC f rs aA rate d).length=E+4:=(by rw [bF,zAi,aB,lM]);rw [cm,bF,zAz];exact ⟨bS,c1,rfl,cb,c4⟩
def aDj {a:List Nat} {c b:Nat} (d:a[c]?=some b):(a.take c).count b < a.count b:=by
 have e:a.count b=(a.take (c+1)).count b+(a.drop (c+1)).count b:=by rw [<-zCc,zAu]
 have f:(a.take (c+1)).count b=(a.take c).count b+1:=by rw [zAv,d,zCc];simp
 omega
def aK1 {a b} (n:IsSuf (aG a) b) {e m d c} (p:b[e]?=some (d+1)) (q:b[m]?=some d) (i:a[d]?=some c):
 (aH (aG a) b)[e]?=some (c.toNat+1)/\cR (aH (aG a) b) (c.toNat+1) e=m:=by
 obtain ⟨j,k⟩:=zAc.1 p;obtain ⟨r,s⟩:=zAc.1 q;have l:=(zAc.1 i).1;have o:(aG a).getD d 0=c.toNat+1:=by unfold aG dQ;rw [zAb,zAn (by simpa using l),zAf,i];rfl
 have f:=lf n (fA a) j r k s;have g:=uT (fA a) j k l;rw [o] at f g;exact ⟨zAc.2 ⟨_,g⟩,f⟩
def sN {B gk L i j s w} (d:WalkAt w B gk L) (b:L[i]?=some s) (g:cR L s i=j) (f:∀c∈L,c < 257) (t:L.length<=1000):
 Calls prog 68 #[gk,(j:Int)] w λa l=>a=.returned (.int .i64 s)/\Below w.heap.size w l:=by
 have u:s < 257:=f _ (zAd b);have q:=aDj b;have k:L.countP (λc=>decide (c < s))+(L.take i).count s=j:=g;have r:j < L.length:=by have:=zG L s L.length;unfold cR at this;rw [zFf] at this;omega
 have o:=d;obtain ⟨y,x,e,m,n⟩:=d;have v:=e.cell 1;clear e m g f b;go_enter func68,ntmps68;go_wp2_with fail;refine (aAV o r).mono ?_;rintro a w1 ⟨rfl,rfl⟩;go_wp2_with fail;refine (aA1 j n u (zj k) (zk k q) t).mono ?_;rintro a l ⟨rfl,p⟩;go_wp2_with fail;go_ret;exact ⟨rfl,p⟩
def yG {c} {s:Nat} (g:s=c.toNat+1) (a):
 Calls prog 67 #[(s:Int)] a λb j=>b=.returned (.tuple #[bv c,true])/\Below a.heap.size a j:=by
 have f:=c.toNat_lt;have k:¬((s:Int)=0):=oM;have l:((s:Int)==0)=false:=by rw [zCb];omega
 have m:IntKind.i64.wrap (s - 1)=(c.toNat:Int):=zu
 have n:IntKind.u8.wrap c.toNat=(c.toNat:Int):=by rw [IntKind.wrap_u8];omega
 have d:¬s=0:=oM;have o:=zBy d;have i:s < 257:=oM;clear g f;go_enter func67,ntmps67;go_wp2_with fail;refine (fW a i).mono ?_;rintro b w1 ⟨rfl,e⟩;go_wp2_with fail;go_ret2;exact ⟨rfl,e⟩
def tM {e gk b d f a k} (z:WalkAt k e gk b) (F:b[d]?=some a) (E:cR b a d=f) (C:∀H∈b,H < 257) (y:b.length<=1000) (K:TabW k) (A:0 < e):
 Calls prog 69 #[gk,(f:Int)] k λv a6=>v=.returned (.int .i64 d)/\VB e k a6:=by
 have a2:a < 257:=C _ (zAd F);have N:=sN (B:=e) (gk:=gk) (L:=b) (i:=d) (j:=f) (s:=a) (w:=k) z F E C y;obtain ⟨n,G⟩:∃n,b.countP (λH=>decide (H < a))=n:=⟨_,rfl⟩;obtain ⟨p,D⟩:=eqx ((b.take d).count a);have a1:n+p=f:=by rw [<-G,<-D];exact E
 have ah:n<=1000:=by rw [<-G];exact zAk zBh y
 have ai:p<=1000:=by rw [<-D];exact zAk zBv (by rw [zAj];omega)
 have Z:=z;obtain ⟨x,ag,J,X,Y⟩:=z;have aj:=J.lt;clear Y E;have ak:decide ((a:Int) < 0)=false:=zs
 go_enter func69,ntmps69;go_wp2_with fail;refine N.mono ?_;rintro v o ⟨rfl,M⟩;clear N;have m:VB e k o:=kc M;have T:=(Z.b m.1);have Q:=(m.1.d J dC dC);have R:=(X.b m.1);have I:=(K.G m A K.pos);have al:=m.1.size;clear M;go_wp2_with fail;refine wp_region_any kR<|aQ (S:=(VB e)) (V:=(Vs [is gk,is gk,is gk,is x,is (f:Int),is gk,is (a:Int),is (n:Int),is (p:Int),is (a:Int),is (d:Int),is (d:Int)])) [11,12,13,14,15,16,17,18,19,20,21,4] _ rfl kR vR (λ_ _=>VisK.trans) (dI tA0) ?_ ?_
 .refine aL<|pH 0 (.pointer (some gk))<|pV 0 11<|pV 1 12<|pL 2 13 (λl c=>have c:(VB e) o l:=bD c;(((c.1.d Q dC dC).cell 0).trans rfl:l.cell? gk=some (.pointer (some x)))) ?_;refine pH 1 (.int .i64 f)<|pH 0 (.pointer (some gk))<|pH 5 (.int .i64 a)<|sC (λ_ l c _ _ _ g _ _ _ q=>?_) ?_
  .have ab:_=_:=g 5 16 kR rfl;have ac:_=_:=g 6 17 kR rfl;replace c:(VB e) o l:=bD c;go_simp;refine (jQ (B:=e) (gk:=gk) (L:=b) (s:=a) (w:=l) (T.b c.1) a2 y).mono ?_;rintro v a8 ⟨rfl,a0⟩;rw [G];exact q _ _ (kc a0) rfl
  refine sC (λ_ _ _ _ _ _ g _ _ _ q=>?_) ?_
  .have aa:_=_:=g 4 15 kR rfl;have ad:_=_:=g 7 18 kR rfl;have am:IntKind.i64.wrap (f -n)=(p:Int):=(by rw [wI0];have:=a1;omega);go_simp;exact q _ _ vR rfl
  refine pH 5 (.int .i64 a)<|sC (λ_ l c _ _ _ g _ _ _ q=>?_) ?_
  .have a9:_=_:=g 3 14 kR rfl;have ae:_=_:=g 8 19 kR rfl;have af:_=_:=g 9 20 kR rfl;replace c:(VB e) o l:=bD c;go_simp;refine (aAR (B:=e) (gv:=x) (L:=b) (r:=d) (j:=p) (s:=a) (w:=l) (R.b c.1) F D C y (I.G c A I.pos) A).mono ?_;rintro v a8 ⟨rfl,a4⟩;exact q _ _ a4 rfl
  refine pV 10 21 ?_;exact aB
 .intro W a7 c g;replace c:(VB e) o a7:=bD c;have U:W (.tmp 4)=.int .i64 d:=g 11 4 rfl;simp only [zqq];rw [U];clear g;have a3:=m.trans c;go_wp2_with fail;go_ret;exact ⟨rfl,a3⟩
@[irreducible] def zerC (u:Nat):Array Value:=lW .i64 u λ_=>0
@[irreducible] def filC (b:List Nat) (t:Nat):Array Value:=lW .i64 257 λa=>if a < t then cR b a 0 else 0
@[irreducible] def firC (b:List Nat) (t:Nat):Array Value:=lW .i64 257 λa=>cR b a t
@[irreducible] def toC (b:List Nat) (u t:Nat):Array Value:=lW .i64 u λd=>if d < t then cR b (b.getD d 0) d else 0
@[irreducible] def seenC (a5:List Nat) (u f:Nat):Array Value:=lW .i64 u λd=>if f < a5.getD d 0 then 1 else 0
@[irreducible] def txtC (P:List UInt8) (f:Nat):Array Value:=lW .u8 P.length λO=>if O < f then 0 else (P.getD O 0).toNat
def aHE (a):Array.replicate a (Value.int .i64 0)=zerC a:=by unfold zerC;exact rX _ _
def aJe (a):Array.replicate 257 (Value.int .i64 0)=filC a 0:=by
 unfold filC;rw [rX];exact dP λc b=>by rw [zBw oM]
def aLG {L a} (e:a < 257):(filC L a).setIfInBounds a (.int .i64 (L.countP (λf=>decide (f < a)):Nat))=filC L (a+1):=by
 unfold filC;rw [nJ e];refine dP λd g=>?_;by_cases b:d=a
 .subst b;rw [zBx rfl,zBx oM];unfold cR;simp
 .rw [zBw b];by_cases c:d < a
  .rw [zBx c,zBx oM]
  .rw [zBw c,zBw oM]
def aLI (a):filC a 257=firC a 0:=by
 unfold filC firC;exact dP λc b=>by rw [zBx b]
def aLH {L k a} (b:a < 257):∃c,(filC L k)[a]?=some c:=by
 unfold filC;exact ⟨_,gX b⟩
def aLF {b c a} (d:a < 257):(firC b c)[a]?=some (.int .i64 (cR b a c:Nat)):=by
 unfold firC;exact gX d
def aLE {b c a} (f:b[c]?=some a) (e:a < 257):(firC b c).setIfInBounds a (.int .i64 (cR b a c+1:Nat))=firC b (c+1):=by
 unfold firC;rw [nJ e];refine dP λg i=>?_;rw [aIU f];by_cases d:g=a
 .subst d;simp
 .rw [zBw d,zBw d]
def aJ5 (b a):zerC a=toC b a 0:=by
 unfold zerC toC;exact dP λd c=>by rw [zBw oM]
def aHH {b d c a} (e:a < d):(toC b d c)[a]?=some (.int .i64 (((if a < c then cR b (b.getD a 0) a else 0:Nat)):Int)):=by
 unfold toC;exact gX e
def aMu {b c a g} (j:b[a]?=some g) (i:a < c):(toC b c a).setIfInBounds a (.int .i64 (cR b g a:Nat))=toC b c (a+1):=by
 unfold toC;rw [nJ i];refine dP λf k=>?_;by_cases d:f=a;subst d;rw [zBx rfl,zBx oM,zAb,j];rfl
 .rw [zBw d];by_cases e:f < a
  .rw [zBx e,zBx oM]
  .rw [zBw e,zBw oM]
def aGl {b d c} (f:∀a∈b,a<=c):zerC d=seenC b d c:=by
 unfold zerC seenC;refine dP λg i=>?_;rw [zBw];rw [zAb];cases e:b[g]? with
 | none=>simp
 | some a=>simpa using f a (zAd e)
def aIF {d c b a} (e:a < c) (f:d[a]?=some b):(seenC d c b)[a]?=some (.int .i64 0):=by
 unfold seenC;rw [gX e,zAb,f];simp
def aIE {a n b c o} (m:IsSuf o a) (q:a.length=n) (l:c < n) (g:a[c]?=some (b+1)):(seenC a n (b+1)).setIfInBounds c (.int .i64 (1:Nat))=seenC a n b:=by
 unfold seenC;rw [nJ l];refine dP λj p=>?_;by_cases e:j=c
 .subst e;rw [zBx rfl,zAb,g,zBx zs]
 .rw [zBw e];obtain ⟨d,i⟩:∃d,a[j]?=some d:=⟨_,zAa oM⟩;have r:d≠b+1:=λk=>e (zC m (by rw [i,k]) g);rw [zAb,i];simp only [zFd];by_cases f:b+1 < d
  .rw [zBx f,zBx oM]
  .rw [zBw f,zBw oM]
def aIi (a):Array.replicate a.length (Value.int .u8 0)=txtC a a.length:=by
 unfold txtC;rw [rX];exact dP λc b=>by rw [zBx b]
def aJ2 {b a c} (f:b[a]?=some c):(txtC b (a+1)).setIfInBounds a (bv c)=txtC b a:=by
 have i:=(zAc.1 f).1;unfold txtC bv;rw [nJ i];refine dP λg j=>?_;by_cases d:g=a;subst d;rw [zBx rfl,zBw oM,zAb,f];rfl
 .rw [zBw d];by_cases e:g < a
  .rw [zBx e,zBx oM]
  .rw [zBw e,zBw oM]
def aJ3 {t j a} (b:a < t.length):∃c,(txtC t j)[a]?=some c:=by
 unfold txtC;exact ⟨_,gX b⟩
def aJ4 (b):(txtC b 0).toList=b.map bv:=by
 unfold txtC;rw [aJw];apply zDs;intro c;rw [zAf,zAf];by_cases a:c < b.length
 .rw [zCk a,zAa a];simp [bv,a]
 rw [zBg (by simpa using a),zBg (by simpa using a)];rfl
def aIj (a b):(txtC a b).size=a.length:=by unfold txtC;exact nI _ _ _
def aIK (a:Nat) (j:a<=1000000) (b):(Instr.makeSlice 22 (.int .i64 a) (.int .i64 a)).run prog b=.ok (.slice (some b.heap.size) a a) (b.alloc (.cells (Array.replicate a (.int .u8 0)) 5)):=by
 obtain ⟨i,d,e,f,g⟩:=info_parts yY;have:=run_make (P:=prog) b 22 5 i (.int .u8 0) underlying22 d e .i64 .i64 a a oM (zFF _) (by rw [g];omega) oM;rw [this,f];have c:madeCells #[.int .u8 0] a=Array.replicate a (.int .u8 0):=by apply zFs;rw [toList_madeCells_one];simp
 simp only [Value.cells,zBr,zBl];rw [c]
def aA9 (a5 T) {B t rs w} (ak:IsSuf (aG t) rs) (aa:Rd w B 1 a5 (t.length+1) ((aH (aG t) rs).map sv)) (hB:B<=w.heap.size) (cq:t.length<=895):
 Calls prog 141 #[.slice a5 (t.length+1) T] w λr bl=>∃bn bs,r=.returned (.tuple #[.slice bn t.length bs,true])/\Made bl w.heap.size 5 1 bn t.length bs (t.map bv)/\Below w.heap.size w bl:=by
 obtain ⟨e,aA⟩:=eqx (aH (aG t) rs);have F:=dR (rs:=rs) (eX t);have aX:=aG3 ak;have b5:e.length=t.length+1:=by rw [<-aA,bY,ak.len,aO]
 rw [aA] at aa F aX;obtain ⟨z,ag⟩:=eqx t.length;obtain ⟨b,b8⟩:=eqx (z+1);rw [ag,b8] at aa b5;rw [ag] at cq;have bO:=vD (A:=a5) (m:=b) (B:=B) (L:=e) (w:=w) T aa hB oM F;obtain ⟨X,a2,rfl,cg,bF⟩:=aa.2 oM;have bG:∀wr,Below w.heap.size w wr->∀(a l:Nat),e[a]?=some l->wr.cell? ⟨X,a2+a,none⟩=some (.int .i64 l):=λwr i a l O=>(i.cell (p:=⟨X,a2+a,none⟩) (zAl cg hB)).trans (bF a _ (by rw [zAf,O];rfl));obtain ⟨c7,aP,c4,ar,an,a6,c1⟩:=hqq7 aa bG F b5 aA ag aX;rw [ag,b8];clear aa bF bG F b5 aA ag aX;go_enter func141,ntmps141;go_wp2_with fail;refine bO.mono ?_;clear bO;rintro r w1 ⟨U,rfl,cT,bC,bx⟩;obtain ⟨aq,aK⟩:=hqq2 bC bx;clear bC bx;go_wp2_with fail;have ba:=yE (gt:=U) (L:=e) (w:=w1) 0 aq oM;rw [c1.out] at ba;refine ba.mono ?_;clear ba;rintro r a7 ⟨rfl,aV⟩;obtain ⟨aN,ao⟩:=hqq2 (aq.out.below aV aq.out.lt) (aK.out.trans (aV.mono aK.out.size));clear aV aq aK;go_wp2_with fail;have d0:b<=896:=oM;refine wp_region_any kR<|zQ (fs:=[31,34]) (C:=(Below a7.heap.size a7)) [29,30,31,32,33,34,6,7] 8 (Grow) [k0 (is (.slice (some ⟨X,a2,none⟩) b T)),k0 (is (b:Int)),k0 (λa3 a4=>∃g,a3=.slice (some ⟨g,0,none⟩) b b/\a7.heap.size<=g/\Bk a4 g 3 (zerC b)),k0 (is (.slice (some ⟨X,a2,none⟩) b T)),k0 (is (b:Int)),k0 (λa3 a4=>∃g,a3=.slice (some ⟨g,0,none⟩) b b/\a7.heap.size<=g/\Bk a4 g 3 (zerC b)),kEq 31,kEq 34] rfl kR kR (bR.drew) (aAQ (by rfl)) (λw bl ay a=>a.elim (λa=>ay.trans (a.mono ay.size)) (λa=>ay.trans (a.mono ay.size))) (by repeat' (first | exact aGY _ | exact aH7 _ |(refine zAe.2 ⟨?_,?_⟩)|(intro d I;cases I))) (by repeat' (first | exact yZ _ _ | exact tZ _ _ | exact kM (λ_ _ _ ⟨g,aS,aT,af⟩ a=>⟨g,aS,aT,af.below a af.lt⟩)|(refine zAe.2 ⟨?_,?_⟩)|(intro d I;cases I))) (by simp only [List.eraseIdx_cons_zero,List.eraseIdx_cons_succ,List.eraseIdx_nil];repeat' (first | exact yZ _ _ | exact tZ _ _ | exact kM (λ_ _ _ ⟨g,aS,aT,af⟩ a=>⟨g,aS,aT,af.below a af.lt⟩)|(refine zAe.2 ⟨?_,?_⟩)|(intro d I;cases I))) ?_ ?_
 .refine aL<|aD (cY rfl rfl λD _ _ _ _ _ o _ _ _ _ u=>?_) ?_
  .have ce:D (.tmp 0)=.slice (some ⟨X,a2,none⟩) b T:=o 0 kR;clear o;go_simp;exact u _ _ (dX bR rfl rfl) rfl
  refine aD (cY rfl rfl λ_ _ _ _ _ _ o J _ _ _ u=>?_) ?_
  .have cG:_=_:=J 0 29 kR rfl;clear o;go_simp;exact u _ _ (dX bR rfl rfl) rfl
  refine aD (cY rfl rfl λ_ _ aU _ _ _ o J _ _ _ u=>?_) ?_
  .obtain ⟨Y,az⟩:=aU;have cH:_=_:=J 1 30 kR rfl;clear o;have bj:=pN b oM;go_simp;exact u _ _ (kY (bR.alloc nL _) rfl (λg ai=>by simp [blk?] at ai;subst ai;simp)) ⟨_,rfl,Y.size,by rw [<-aHE];exact kd _ _ _⟩
  refine aD (cY rfl rfl λD _ _ _ _ _ o _ _ _ _ u=>?_) ?_
  .have ce:D (.tmp 0)=.slice (some ⟨X,a2,none⟩) b T:=o 0 kR;clear o;go_simp;exact u _ _ (dX bR rfl rfl) rfl
  refine aD (cY rfl rfl λ_ _ _ _ _ _ o J _ _ _ u=>?_) ?_
  .have cI:_=_:=J 3 32 kR rfl;clear o;go_simp;exact u _ _ (dX bR rfl rfl) rfl
  refine aD (cY rfl rfl λ_ _ aU _ _ _ o J _ _ _ u=>?_) ?_
  .obtain ⟨Y,az⟩:=aU;have cJ:_=_:=J 4 33 kR rfl;clear o;have bj:=pN b oM;go_simp;exact u _ _ (kY (bR.alloc nL _) rfl (λg ai=>by simp [blk?] at ai;subst ai;simp)) ⟨_,rfl,Y.size,by rw [<-aHE];exact kd _ _ _⟩
  refine aD (cY rfl rfl λ_ _ _ _ _ _ o _ _ _ _ u=>?_) ?_
  .clear o;go_simp;exact u _ _ (dX bR rfl rfl) rfl
  refine aD (cY rfl rfl λ_ _ _ _ _ _ o _ _ _ _ u=>?_) ?_
  .clear o;go_simp;exact u _ _ (dX bR rfl rfl) rfl
  exact aB
 .intro D am Y az J cf;have bu:D (.tmp 6)=D (.tmp 31):=J 6 6 rfl;have bw:D (.tmp 7)=D (.tmp 34):=J 7 7 rfl;have ct:(λa3 a4=>∃g,a3=.slice (some ⟨g,0,none⟩) b b/\a7.heap.size<=g/\Bk a4 g 3 (zerC b)) (D (.tmp 31)) am:=J 2 31 rfl;have cu:(λa3 a4=>∃g,a3=.slice (some ⟨g,0,none⟩) b b/\a7.heap.size<=g/\Bk a4 g 3 (zerC b)) (D (.tmp 34)) am:=J 5 34 rfl;simp only [zqq];clear J cf;obtain ⟨E,bd,be,bV⟩:=ct;obtain ⟨q,S,aj,bP⟩:=cu;have bH:E≠q:=λr=>az.2 31 zs 34 zs dC E (by rw [bd];rfl) (by rw [S,r];rfl);have bz:=ao.trans (Y.mono ao.size);have bD:=aN.below Y aN.lt;have cP:=ao.size;rw [bu,bw,bd,S];generalize D (.tmp 29)=u29;generalize D (.tmp 30)=u30;generalize D (.tmp 32)=u32;generalize D (.tmp 33)=u33;obtain ⟨av,au,aM,ad⟩:=hqq4 bV bP bz bD;clear bV bP bz bD az bu bw bd S Y;go_wp2_with fail;obtain ⟨H,a8⟩:=eqx am.heap.size;have aZ:Bk (am.alloc (.cells Tryz.zeroCells205 205)) H 205 (filC e 0):=(by rw [<-a8,<-aJe];exact kd _ _ _);have V:=av.alloc (.cells Tryz.zeroCells205 205);have a0:=au.alloc (.cells Tryz.zeroCells205 205);have bh:=ad.alloc (.cells Tryz.zeroCells205 205);have Z:=aM.alloc aM.size (.cells Tryz.zeroCells205 205);have cj:E < H:=(by rw [<-a8];exact av.lt);have cQ:q < H:=(by rw [<-a8];exact au.lt);have cS:U < H:=(by rw [<-a8];exact ad.lt);have cV:U≠E:=Bk.ne ad av dC;have cU:U≠q:=Bk.ne ad au dC;rw [a8];generalize am.alloc (.cells Tryz.zeroCells205 205)=W1 at aZ V a0 bh Z⊢;clear av au aM ad aN ao a8;go_loopw [35] (λP wr=>∃a:Nat,a<=257/\P=.int .i64 a/\Bk wr H 205 (filC e a)/\Bk wr E 3 (zerC b)/\Bk wr q 3 (zerC b)/\Bk wr U 207 (tcells e)/\Below w.heap.size w wr) (λP _=>257 -(intOf P).toNat)
  case atStart=>exact ⟨0,by omega,rfl,aZ,V,a0,bh,Z⟩
  case round=>
   clear aZ V a0 bh Z;obtain ⟨a,b0,rfl,N,K,v,ht,i⟩:=hrel;by_cases F:a < 257
   .have cZ:((a:Int) < 257):=oM;have aW:=lR (gt:=U) (L:=e) (s:=a) (w:=wr) ht F (by rw [ar.out];omega);obtain ⟨f,a1⟩:∃f,e.countP (λl=>decide (l < a))=f:=⟨_,rfl⟩;have bf:=aLG (L:=e) F;rw [a1] at aW bf;obtain ⟨W,y,x,bq,c8⟩:=hqq5 N K v ht bf;clear N K v ht bf a1;go_wp2_with fail;refine aW.mono ?_;clear aW;rintro r d3 ⟨rfl,ah⟩;have aC:=W.below ah W.lt;obtain ⟨cw,al⟩:=aLH (L:=e) (k:=a) F;have cA:=(aC.cell a).trans al;have cM:=aC.frozen a;have c2:=lhd aC;clear aC al;go_wp2_with fail;go_roundw
    case rel=>exact ⟨a+1,by omega,by go_num,by rw [<-c8.out];exact c2.set a _,(y.below ah y.lt).m zt _,(x.below ah x.lt).m zt _,(bq.below ah bq.lt).m zt _,(i.trans (ah.mono i.size)).setCell zt _⟩
    case measure=>exact zr
   .have b1:a=257:=oM;subst b1;rw [aLI] at N;have bt:((257:Nat):Int)=257:=rfl;rw [bt];clear bt;obtain ⟨W,y,x,G⟩:=hqq4 N K v i;clear N K v ht i F b0;go_wp2_with fail;have ck:w.heap.size<=q:=oM;have cm:w.heap.size<=E:=oM;have ci:w.heap.size<=H:=oM;have bM:H≠q:=oM;have bN:q≠H:=oM;go_loopw [46] (λP wr=>∃a:Nat,a<=b/\P=.int .i64 a/\Bk wr H 205 (firC e a)/\Bk wr E 3 (zerC b)/\Bk wr q 3 (toC e b a)/\Below w.heap.size w wr) (λP _=>b -(intOf P).toNat)
    case atStart=>exact ⟨0,by omega,rfl,W,y,by rw [<-aJ5];exact x,G⟩
    case round=>
     clear W y x G;obtain ⟨a,b0,rfl,N,K,v,i⟩:=hrel;by_cases F:a < b
     .obtain ⟨l,O⟩:∃l,e[a]?=some l:=⟨_,zAa (by rw [ar.out];exact F)⟩;have bX:=c4 l (zAd O);have aw:=aP wr i a l O;obtain ⟨f,a1⟩:=eqx (cR e l a);have d1:f<=1000:=(by have:=zG e l a;rw [a1,ar.out] at this;omega);have cy:wr.cell? ⟨H,l,none⟩=some (.int .i64 f):=(by rw [<-a1];exact (N.cell l).trans (aLF bX));have cK:=N.frozen l;have cz:wr.cell? ⟨q,a,none⟩=some (.int .i64 (((if a < a then cR e (e.getD a 0) a else 0:Nat)):Int)):=(v.cell a).trans (aHH F);have cL:=v.frozen a;have ab:=aMu O F;have ac:=aLE O bX;rw [a1] at ab ac;have cO:IntKind.i64.wrap (f+1)=((f+1:Nat):Int):=zu;obtain ⟨W,y,x,aQ,aR⟩:=hqq5 N K v ab ac;clear N K v ab ac a1;go_wp2_with fail;go_roundw
      case rel=>exact ⟨a+1,by omega,by go_num,by rw [<-aR.out];exact (W.m (p:=⟨q,a,none⟩) bM _).set l _,(y.m (p:=⟨q,a,none⟩) bH _).m (p:=⟨H,l,none⟩) (zGh cj) _,by rw [<-aQ.out];exact (x.set a _).m (p:=⟨H,l,none⟩) bN _,(i.setCell (p:=⟨q,a,none⟩) ck _).setCell (p:=⟨H,l,none⟩) ci _⟩
      case measure=>exact zr
     .have b1:b=a:=oM;subst b1;obtain ⟨y,x,G⟩:=hqq3 K v i;have ch:=i.size;clear N K v i F b0 bM bN;have cN:((b:Int) - 1)=(z:Int):=oM;have bj:=aIK z oM;go_wp2_with fail;obtain ⟨M,a9⟩:=eqx wr.heap.size;have bi:Bk (wr.alloc (.cells (Array.replicate z (.int .u8 0)) 5)) M 5 (txtC t z):=(by rw [<-a9,<-a6.out,<-aIi];exact kd _ _ _);have V:=y.alloc (.cells (Array.replicate z (.int .u8 0)) 5);have a0:=x.alloc (.cells (Array.replicate z (.int .u8 0)) 5);have Z:=G.alloc G.size (.cells (Array.replicate z (.int .u8 0)) 5);have bL:E≠M:=zGh (by rw [<-a9];exact y.lt);have bK:q≠M:=zGh (by rw [<-a9];exact x.lt);have bJ:w.heap.size<=M:=(by rw [<-a9];exact G.size);rw [a9];generalize wr.alloc (.cells (Array.replicate z (.int .u8 0)) 5)=W2 at bi V a0 Z⊢;clear y x G a9 bj ch;have bU:rs.length=b:=(by have:=congrArg List.length an;rw [bY,ar.out] at this;exact this);have b4:∀d∈rs,d<=z:=λd I=>by have:=ak.lt I;rw [aO,a6.out] at this;omega
      rw [aGl b4] at V;have bc:=aEw ak;rw [a6.out] at bc;obtain ⟨bp,cx,ae⟩:=hqq3 bU b4 ak;clear bU b4;go_loopw [13,14] (λcv P wr=>∃R d:Nat,R<=z/\rs[d]?=some R/\cv=.int .i64 d/\P=.int .i64 ((R:Int) - 1)/\Bk wr E 3 (seenC rs b R)/\Bk wr q 3 (toC e b b)/\Bk wr M 5 (txtC t R)/\Below w.heap.size w wr) (λ_ P _=>(intOf P+1).toNat)
      case atStart=>exact ⟨z,0,by omega,bc,rfl,by first | rfl | go_num,V,a0,bi,Z⟩
      case round=>
       clear V a0 bi Z bc;obtain ⟨R,d,cX,I,rfl,rfl,K,v,O,i⟩:=hrel;have aE:d < b:=(by rw [<-bp.out];exact (zAc.1 I).1);by_cases co:R=0
       .subst co;have b2:=aI0 ae I;rw [an.out] at b2;have aw:=aP wr i d 0 b2;have cp:(((0:Nat):Int) - 1)=-1:=rfl;rw [cp];have b7:=aHW (B:=w.heap.size) O bJ ((aIj t 0).trans a6) zx;rw [aJ4] at b7;obtain ⟨bo,G⟩:=hqq2 b7 i;clear K v O i b7 b2;have b3:=qO (A:=(some ⟨M,0,none⟩)) (m:=z) (B:=wr.heap.size) (t:=t) (w:=wr) z bo.rd nL oM;rw [b8] at b3;go_wp2_with fail;refine b3.mono ?_;clear b3;rintro r bm ⟨d2,bZ,cd,be,rfl,b6,Q⟩;have cs:=be.unique ae;subst cs;rw [an.out] at b6;have bW:=aA8 (A:=bZ) (A2:=(some ⟨X,a2,none⟩)) (n:=b) (B:=bm.heap.size) (L:=e) (w:=bm) cd T b6.rd (((c7.below (G.mono hB)).below (Q.mono (zj G.size))).mono (zk G.size Q.size)) nL oM;have ap:=lhd Q;clear Q b6 be aw;go_wp2_with fail;refine bW.mono ?_;clear bW;rintro r d4 ⟨rfl,bB⟩;have c0:=lhd bB;clear bB;go_wp2_with fail;go_ret2;have bA:=ap.trans (c0.mono ap.size);exact ⟨_,_,rfl,bo.below bA,G.trans (bA.mono G.size)⟩
       .obtain ⟨f,rfl⟩:∃f,R=f+1:=⟨R - 1,by omega⟩;have cr:(((f+1:Nat):Int) - 1)=(f:Int):=oM;rw [cr];have bT:f < t.length:=(by rw [a6.out];omega);obtain ⟨ax,aY⟩:∃ax,t[f]?=some ax:=⟨_,zAa bT⟩;obtain ⟨bk,bS,bQ⟩:=ae.row (p:=f) (by rw [aO,a6.out];omega);have bb:rs[bk]?=some f:=(by rw [zAa bS,bQ]);obtain ⟨S,aj⟩:=aK1 ae I bb aY;rw [an.out] at S aj;have aw:=aP wr i d _ S;obtain ⟨aJ,bg⟩:=eqx (ax.toNat+1);have bE:=yG (c:=ax) (s:=aJ) bg.symm wr;rw [bg] at S aj aw;have ab:=aIE (n:=b) ae bp aE I;have ac:=aJ2 aY;have bI:(toC e b b)[d]?=some (.int .i64 bk):=(by rw [aHH aE,zBx aE,zAb,S];show some (Value.int .i64 (cR e aJ d:Nat))=_;rw [aj]);obtain ⟨cw,al⟩:=aJ3 (t:=t) (j:=f+1) bT;obtain ⟨c6,aQ,aR,c3,y,x,br,ca,c9⟩:=hqq9 bb ab ac bI K v O al (aIF aE I);clear bb bQ bS S aj bg ab ac bI K v O al aY;go_wp2_with fail;refine bE.mono ?_;clear bE;rintro r bm ⟨rfl,Q⟩;have aI:=y.below Q y.lt;have b9:=x.below Q x.lt;have aF:=br.below Q br.lt;have cB:=(aI.cell d).trans c9;have cC:=aI.frozen d;have cD:=(b9.cell d).trans c3;have cE:=(aF.cell f).trans ca;have cF:=aF.frozen f;have cl:q≠E:=λr=>bH r.symm;have cn:M≠E:=λr=>bL r.symm;have cW:M≠q:=λr=>bK r.symm;obtain ⟨cc,c5,cb,ap⟩:=hqq4 aI b9 aF (i.trans (Q.mono i.size));clear aI b9 aF Q i;unfold bv;go_wp2_with fail;go_roundw
        case rel=>
         refine ⟨f,bk,by omega,c6,rfl,?_,?_,?_,?_,?_⟩
         .first | rfl | go_num
         rw [<-aQ.out];exact (cc.set d _).m (p:=⟨M,f,none⟩) bL _;exact (c5.m (p:=⟨E,d,none⟩) cl _).m (p:=⟨M,f,none⟩) bK _;rw [<-aR.out];exact (cb.m (p:=⟨E,d,none⟩) cn _).set f _;exact (ap.setCell (p:=⟨E,d,none⟩) cm _).setCell (p:=⟨M,f,none⟩) bJ _
        case measure=>simp [intOf]
end Go.Proofs.YtknjfpcdhdmghaaGreatDoor
