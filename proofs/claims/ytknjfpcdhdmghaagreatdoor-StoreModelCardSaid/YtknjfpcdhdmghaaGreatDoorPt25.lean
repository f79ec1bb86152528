/- Lemmas of the walk. Conditions: each its own. -/
import Derived.Test.YtknjfpcdhdmghaaGreatDoorPt21
import Derived.Test.YtknjfpcdhdmghaaGreatDoorPt22
set_option linter.all false
set_option maxRecDepth 100000
set_option maxHeartbeats 4000000
open Go.Proofs.Tryz
namespace Go.Proofs.YtknjfpcdhdmghaaGreatDoor
open Go.RowKit
def aAV {B gk L i w} (d:WalkAt w B gk L) (e:i < L.length):
 Calls prog 128 #[gk,(i:Int)] w λa c=>a=.returned (.bool true)/\w=c:=by
 obtain ⟨f,b⟩:=eqx L.length;rw [b] at e;have g:(i:Int) < f:=oM;go_enter func128,ntmps128;go_wp2_with fail;refine (mH d).mono ?_;rintro a c ⟨rfl,rfl⟩;rw [b];go_wp2_with fail;go_ret;exact ⟨rfl,rfl⟩
def oO {b gk:Nat} {a} {f d:Nat} {g} (E:WalkAt g b gk a) (y:a[f]?=some d) (v:∀D∈a,D < 257) (p:a.length<=1000):
 Calls prog 126 #[gk,(f:Int)] g λl X=>l=.returned (.int .i64 (cR a d f:Nat))/\VB b g X:=by
 have x:=(zAc.1 y).1;have H:d < 257:=v _ (zAd y);have G:=E;obtain ⟨k,a7,u,F,O⟩:=E;have I:=u.cell 0;have aa:=u.lt;obtain ⟨n,z⟩:=eqx (cR a d f);obtain ⟨r,A⟩:∃W,a.countP (λD=>decide (D < d))=W:=⟨_,rfl⟩;obtain ⟨t,C⟩:=eqx ((a.take f).count d);have R:r+t=n:=by rw [<-A,<-C,<-z];rfl
 have a8:r<=1000:=by rw [<-A];exact zAk zBh p
 have a9:t<=1000:=by rw [<-C];exact zAk zBv (by rw [zAj];omega)
 rw [z];clear O z;go_enter func126,ntmps126;go_wp2_with fail;refine (aAV (B:=b) (gk:=gk) (L:=a) (i:=f) (w:=g) G x).mono ?_;rintro l w1 ⟨rfl,rfl⟩;go_wp2_with fail;refine (eR (B:=b) (gv:=k) (L:=a) (w:=g) f d F x (zAc.1 y).2 v p).mono ?_;rintro l o ⟨rfl,q⟩;have P:=G.b q.1;have M:=q.1.d u dC dC;have N:=F.b q.1;clear I;go_wp2_with fail;refine wp_region_any kR<|aQ (S:=(VB b)) (V:=(Vs [is gk,is (d:Int),is (r:Int),is gk,is gk,is gk,is k,is (f:Int),is (d:Int),is (t:Int),is (n:Int),is (n:Int)])) [20,21,22,23,24,25,26,27,28,29,30,4] _ rfl kR vR (λ_ _=>VisK.trans) (dI tA0) ?_ ?_
 .refine aL<|pH 0 (.pointer (some gk))<|pH 5 (.int .i64 d)<|sC (λ_ j c _ _ _ e _ _ _ m=>?_) ?_
  .have a0:_=_:=e 0 20 kR rfl;have a1:_=_:=e 1 21 kR rfl;replace c:(VB b) o j:=bD c;go_simp;refine (jQ (B:=b) (gk:=gk) (L:=a) (s:=d) (w:=j) (P.b c.1) H p).mono ?_;rintro l Z ⟨rfl,Q⟩;rw [A];exact m _ _ (kc Q) rfl
  refine pH 0 (.pointer (some gk))<|pV 3 23<|pV 4 24<|pL 5 25 (λj c=>have c:(VB b) o j:=bD c;(((c.1.d M dC dC).cell 0).trans rfl:j.cell? gk=some (.pointer (some k)))) ?_;refine pH 1 (.int .i64 f)<|pH 5 (.int .i64 d)<|sC (λ_ j c _ _ _ e _ _ _ m=>?_) ?_
  .have a3:_=_:=e 6 26 kR rfl;have a4:_=_:=e 7 27 kR rfl;have a5:_=_:=e 8 28 kR rfl;replace c:(VB b) o j:=bD c;go_simp;refine (iZ (B:=b) (gv:=k) (L:=a) (s:=d) (w:=j) f (N.b c.1) H (zCm x) v p).mono ?_;rintro l Z ⟨rfl,U⟩;rw [C];exact m _ _ U rfl
  refine sC (λ_ _ _ _ _ _ e _ _ _ m=>?_) ?_
  .have a2:_=_:=e 2 22 kR rfl;have a6:_=_:=e 9 29 kR rfl;have ab:IntKind.i64.wrap (r+t)=(n:Int):=(by rw [wI0];have:=R;omega);go_simp;exact m _ _ vR rfl
  refine pV 10 30 ?_;exact aB
 .intro K Y c e;replace c:(VB b) o Y:=bD c;have J:K (.tmp 4)=.int .i64 n:=e 11 4 rfl;simp only [zqq];rw [J];clear e;have T:=q.trans c;go_wp2_with fail;go_ret;exact ⟨rfl,T⟩
def aDK {t c n u v w g d:Nat} (a:Nat) {f k} (o:k.ownsRow t 133 2 (.slice (some c) n u) n (bU f)) (y:a < f.length) (z:Bk k v 3 #[(g:Int)]) (A:Bk k w 3 #[(d:Int)]) (D:aF f a<=1000000000000):
 Calls prog 176 #[.pointer (some ⟨c,a*2,none⟩),v,w] k λC O=>C=.returned (.tuple #[])/\O.ownsRow t 133 2 (.slice (some c) n u) n (bU (f.set a (mvR g d (aF f a),aS f a)))/\Keep (λi=>i=c) k O:=by
 obtain ⟨N,T⟩:=cL f a y;have R:f.length=n:=by have x:=o.1;rw [dO] at x;omega
 have P:=(kh o (a*2) oM).trans N;have a4:k.cell? v=some (.int .i64 g):=(z.cell 0).trans rfl;have a5:k.cell? w=some (.int .i64 d):=(A.cell 0).trans rfl;obtain ⟨V,r⟩:=fE o;have X:=r.frozen (a*2);have Y:=r.lt;have Z:=z.lt;have a0:=A.lt;have a2:v≠c:=Bk.ne z r dC;have a3:w≠c:=Bk.ne A r dC;have L:=mW y;have M:=λe=>mA e y;obtain ⟨b,G⟩:=eqx (aF f a);rw [G] at P L D;rw [G];have H:∀e:Nat,(k.setCell ⟨c,a*2,none⟩ (.int .i64 e)).ownsRow t 133 2 (.slice (some c) n u) n (bU (f.set a (e,aS f a))):=λe=>by have:=(kk o (a*2) (.int .i64 e)).1;rwa [M] at this
 have S:∀J e:Nat,((k.setCell ⟨c,a*2,none⟩ (.int .i64 J)).setCell ⟨c,a*2,none⟩ (.int .i64 e)).ownsRow t 133 2 (.slice (some c) n u) n (bU (f.set a (e,aS f a))):=λJ e=>by have x:=(kk (kk o (a*2) (.int .i64 J)).1 (a*2) (.int .i64 e)).1;rw [List.set_set,M] at x;exact x
 have a1:∀e:Value,Keep (λi=>i=c) k (k.setCell ⟨c,a*2,none⟩ e):=λe=>ka (F:=λi=>i=c) (ke _ _) (p:=⟨c,a*2,none⟩) (.inl rfl) _;clear y z A N T r R G;have s:∀e:Nat,mvR g d b=e->f.set a (mvR g d b,aS f a)=f.set a (e,aS f a):=λe C=>by rw [C]
 by_cases K:b=g
 .subst K;have l:mvR b d b=d:=(by unfold mvR;rw [zBx rfl]);rw [l];clear s;go_enter func176,ntmps176;go_wp2_with fail;go_quiet (fail);go_wp2_with fail;refine bodyPost_ret (results_none rfl _ _ _) rfl ?_;exact ⟨rfl,uI (H d) rfl,(ka (F:=λi=>i=c) ((ke _ _).drewN _) (p:=⟨c,a*2,none⟩) (.inl rfl) _)⟩
 .have U:((b:Int)==g)=false:=(by rw [zCb];omega);have m:mvR g d b=inR (bN b g) d:=(by unfold mvR;rw [zBw K]);by_cases B:g < b
  .obtain ⟨j,E⟩:∃j,b=j+1:=⟨b - 1,by omega⟩;have b1:=zy ((b:Int) > g);have W:IntKind.i64.wrap (b - 1)=(j:Int):=zu;have I:bN b g=j:=(by unfold bN;rw [zBx B];omega);rw [I] at m;by_cases q:d<=j
   .have b2:=zy ((j:Int)>=d);have Q:wrap64 (j+1)=(b:Int):=(by rw [dU oM oM];omega);have l:mvR g d b=b:=(by rw [m];unfold inR;rw [zBx q];exact E.symm);rw [l];clear s m I D E;go_enter func176,ntmps176;go_wp2_with fail;go_quiet (fail);go_wp2_with fail;go_quiet (fail);go_wp2_with fail;go_quiet (fail);go_wp2_with fail;go_end0;exact ⟨rfl,uI (S j b) rfl,(ka (F:=λi=>i=c) (Keep.drewN (ka (F:=λi=>i=c) ((ke _ _).drewN _) (p:=⟨c,a*2,none⟩) (.inl rfl) _) _) (p:=⟨c,a*2,none⟩) (.inl rfl) _)⟩
   .have b2:=zn ((j:Int)>=d);have l:mvR g d b=j:=(by rw [m];unfold inR;rw [zBw q]);rw [l];clear s m I D E;go_enter func176,ntmps176;go_wp2_with fail;go_quiet (fail);go_wp2_with fail;go_quiet (fail);go_wp2_with fail;go_quiet (fail);go_wp2_with fail;go_end0;exact ⟨rfl,uI (H j) rfl,Keep.drewN (ka (F:=λi=>i=c) ((ke _ _).drewN _) (p:=⟨c,a*2,none⟩) (.inl rfl) _) _⟩
  .have b1:=zn ((b:Int) > g);by_cases q:d<=b
   .have b2:=zy ((b:Int)>=d);have Q:wrap64 (b+1)=((b+1:Nat):Int):=(by rw [dU oM oM];omega);have l:mvR g d b=b+1:=(by rw [m];unfold bN;rw [zBw B];unfold inR;rw [zBx q]);rw [l];clear s m;go_enter func176,ntmps176;go_wp2_with fail;go_quiet (fail);go_wp2_with fail;go_quiet (fail);go_wp2_with fail;go_quiet (fail);go_wp2_with fail;go_end0;exact ⟨rfl,uI (H (b+1)) rfl,(ka (F:=λi=>i=c) ((ke _ _).drewN _) (p:=⟨c,a*2,none⟩) (.inl rfl) _)⟩
   .have b2:=zn ((b:Int)>=d);have l:mvR g d b=b:=(by rw [m];unfold bN;rw [zBw B];unfold inR;rw [zBw q]);rw [l,L];clear s m;go_enter func176,ntmps176;go_wp2_with fail;go_quiet (fail);go_wp2_with fail;go_quiet (fail);go_wp2_with fail;go_quiet (fail);go_wp2_with fail;go_end0;exact ⟨rfl,o,(((ke _ _).drewN _).drewN _).drewN _⟩
def yV {o j s k l m n:Nat} {f w x v} {q p:Nat} {d c u r g} (z:PermAt g o j s f w x v q p d c u r) (G:d.Nodup) (F:d.length<=1000000) (I:Bk g k 3 #[(m:Int)]) (D:∀b,f.ownBlock=some b->b≠k) (J:Bk g l 3 #[(n:Int)]) (E:∀b,f.ownBlock=some b->b≠l) (A:∀a,a∈d->aF c a<=1000000000000/\aS c a<=1000000000000):
 Calls prog 169 #[j,.func (.func 176) #[] #[k,l]] g λe y=>e=.returned (.tuple #[])/\Keep (λb=>f.ownBlock=some b) g y/\∃i,i.length=c.length/\(∀a,a∈d->(aF i a,aS i a)=(mvR m n (aF c a),aS c a))/\PermAt y o j s f w x v q p d i u r:=
 qV (λL K=>(mvR m n L,K)) z G F A (mM func176 kR kR) λ_ _ _ a _ _ t H B C=>aDK a H B (t.d I λe=>D _ e rfl) (t.d J λe=>E _ e rfl) C.1
structure LiveG (w:World) (Bw gl gk gp rate n:Nat) (L:List Nat) (pr:List (Nat×Nat)):Prop where
 a:∃mv:Int,Bk w gl 104 #[gk,gp,(rate:Int),(mv:Int)]
 walk:WalkAt w Bw gk L
 perm:PermR w gp n n pr
def LiveG.b {k w' c e gk f j g d i} (a:LiveG k c e gk f j g d i) (b:Vis k w'):LiveG w' c e gk f j g d i:=by
 obtain ⟨m,l⟩:=a.a;exact ⟨⟨m,b.d l dC dC⟩,a.walk.b b,a.perm.b b⟩
def LiveG.ai {e a c gk f k i b j} (d:LiveG e a c gk f k i b j):LvW e a c b:=by
 obtain ⟨l,g⟩:=d.a;exact ⟨gk,_,_,_,g,d.walk⟩
def LiveG.mono {j b B' d gk e i f c g} (a:LiveG j b d gk e i f c g) (hB:B'<=b):LiveG j B' d gk e i f c g:=⟨a.a,a.walk.mono hB,a.perm⟩
def LiveG.lt {b c a gk e j g d i} (f:LiveG b c a gk e j g d i):a < b.heap.size:=f.ai.lt
def xU (a):a=(List.range a.length).map λc=>(aF a c,aS a c):=by
 apply zDs;intro d;rw [zAf];by_cases b:d < a.length;rw [zCk b,zAa b];unfold aF aS;rw [zEq,zAb,zAa b];rfl;rw [zBg oM,zBg (by simpa using b)];rfl
def LiveAt.g {r d i gk j f o p q c l m e a n} (b:LiveAt r d i gk j f o p q c l m e a n) (u:a.Pairwise (λs t=>s.1 < t.1)) (k:a.length<=1000):LiveG r d i gk j m l e a:=
 ⟨⟨0,b.a⟩,b.walk,c,f,o,p,q,_,_,a,n, [],b.perm,aCZ u,k,by rw [zCi];exact k,xU a⟩
def zZ {rs rate n} (e:n<=rs.length):∀a∈dE rs rate n,rs[a.1]?=some a.2:=λa c=>by
 obtain ⟨d,b⟩:=rA c;rw [b,zAb,zAa (show a.1 < rs.length by omega)];rfl
def aIG {c b rate} (a:IsSuf (aG c) b):∃g∈dE b rate (c.length+1),g.2=0:=by
 obtain ⟨f,e,d⟩:=a.row (p:=0) (by rw [aO];omega);refine ⟨(f,0),(aKv _ _ _ _ _).2 ⟨?_,?_,Nat.zero_mod _⟩,rfl⟩;have:=a.len;rw [aO] at this;omega;rw [zAb,zAa e,d];rfl
def gP (o Z gk ag aB:Nat) {t rs C} {i p:Nat} (n) (f:LiveG n o Z gk ag aB (t.length+1) (aH (aG t) rs) C) (ay:∀c∈C,rs[c.1]?=some c.2) (e:IsSuf (aG t) rs) (aq:t.length<=895) (I:rs[i]?=some p):
 Calls prog 66 #[Z,(p:Int)] n λg aC=>g=.returned (.int .i64 i)/\VB o n aC:=by
 have K:rs.length=t.length+1:=by rw [e.len,aO]
 have r:(aH (aG t) rs).length=t.length+1:=by rw [bY,K]
 have au:p < t.length+1:=by have:=e.lt (zAd I);rwa [aO] at this
 have a6:=aEw e;obtain ⟨q,G⟩:=eqx t.length;have a8:∀a b:Nat,rs[a]?=some (b+1)->∃E y,(aH (aG t) rs)[a]?=some E/\cR (aH (aG t) rs) E a=y/\rs[y]?=some b:=λa b s=>by obtain ⟨z,X⟩:=zAc.1 s;have ak:b+1 < (aG t).length:=e.lt (zAd s);obtain ⟨y,a0,Y⟩:=e.row (p:=b) oM;have a3:=fA t;have am:=uT a3 z X (by rw [aO] at ak;omega);exact ⟨(aG t).getD b 0,y,zAc.2 ⟨_,am⟩,lf e a3 z a0 X Y,zAc.2 ⟨a0,Y⟩⟩
 have a5:∀a b:Nat,rs[a]?=some b->b<=t.length/\a<=t.length:=λa b s=>by have j:=e.lt (zAd s);rw [aO] at j;have F:=(zAc.1 s).1;omega
 have a9:∀a,rs[a]?=some p->a=i:=λa z=>zC e z I;rw [G] at f;rw [G] at r au aq K a6 a5;have aF:decide ((p:Int) < 0)=false:=zs
 have ar:¬q < p:=oM;have aI:=zBy ar;have W:=(dR (eX t) (rs:=rs));obtain ⟨aK,A⟩:=f.a;have aa:=A.cell 0;have ab:=A.cell 1;have an:=A.lt;clear e I G K A;go_enter func66,ntmps66;go_wp2_with fail;refine (cD f.ai r oM).mono ?_;rintro g w1 ⟨rfl,rfl⟩;go_wp2_with fail;refine (cD f.ai r oM).mono ?_;rintro g w1 ⟨rfl,rfl⟩;go_wp2_with fail;have L:=sV p f.perm;unfold xJ at L;refine L.mono ?_;rintro g aD ⟨aN,rfl,x,a1⟩;clear L;have R:VB o n aD:=kc a1;have F:=f.b R.1;obtain ⟨aL,B⟩:=F.a;have ad:=B.cell 0;have ae:=B.cell 1;have ap:=B.lt;clear a1 aa ab an B;rcases x with ⟨x,_⟩|⟨⟨aJ,m⟩,al,x,J,_⟩
 .subst x;go_wp2_with fail;go_loopw [5,6] (λc V wr=>∃a d:Nat,p<=a/\a<=q/\rs[d]?=some a/\c=.int .i64 a/\V=.int .i64 d/\VB o n wr) (λc _ _=>(intOf c).toNat)
  case atStart=>exact ⟨q,0,by omega,zAs _,a6,rfl,rfl,R⟩
  case round=>
   obtain ⟨a,d,av,ah,v,rfl,rfl,l⟩:=hrel;have j:=f.b l.1;obtain ⟨aA,k⟩:=j.a;have ac:=k.cell 0;have ao:=k.lt;clear k;by_cases ai:p < a
   .obtain ⟨b,u⟩:∃b,a=b+1:=⟨a - 1,by omega⟩;obtain ⟨E,T,O,P,Q⟩:=a8 d b (by rw [<-u];exact v);have af:IntKind.i64.wrap (a - 1)=(b:Int):=zu;have H:p<=b:=oM;have aj:b < a:=oM;clear u;go_wp2_with fail;refine (oO j.walk O W (by rw [r];omega)).mono ?_;rintro g aE ⟨rfl,w⟩;rw [P];have S:=l.trans w;clear w;go_wp2_with fail;go_roundw
    case rel=>exact ⟨b,T,H,by omega,Q,by go_num,by first | rfl | trivial,S⟩
    case measure=>exact zr
   .obtain rfl:a=p:=oM;have M:=a9 d v;subst M;go_wp2_with fail;go_ret;exact ⟨rfl,l⟩
 .subst x;have J:p<=m:=J;have a4:∃c∈C,c.2=m:=⟨_,al,rfl⟩;have aw:=zy ((m:Int)>=0);go_wp2_with fail;have N:=vK F.perm a4;unfold aBa at N;refine N.mono ?_;rintro g aM ⟨U,a7,rfl,a2⟩;have D:=ay _ a7;have D:rs[U]?=some m:=D;have az:=R.below a2;have ax:=(a5 U m D).1;clear N a7 a2 a4 ad ae ap aw;go_wp2_with fail;go_loopw [5,6] (λc V wr=>∃a d:Nat,p<=a/\a<=q/\rs[d]?=some a/\c=.int .i64 a/\V=.int .i64 d/\VB o n wr) (λc _ _=>(intOf c).toNat)
  case atStart=>exact ⟨m,U,J,ax,D,rfl,rfl,az⟩
  case round=>
   obtain ⟨a,d,av,ah,v,rfl,rfl,l⟩:=hrel;have j:=f.b l.1;obtain ⟨aA,k⟩:=j.a;have ac:=k.cell 0;have ao:=k.lt;clear k;by_cases ai:p < a
   .obtain ⟨b,u⟩:∃b,a=b+1:=⟨a - 1,by omega⟩;obtain ⟨E,T,O,P,Q⟩:=a8 d b (by rw [<-u];exact v);have af:IntKind.i64.wrap (a - 1)=(b:Int):=zu;have H:p<=b:=oM;have aj:b < a:=oM;clear u;go_wp2_with fail;refine (oO j.walk O W (by rw [r];omega)).mono ?_;rintro g aE ⟨rfl,w⟩;rw [P];have S:=l.trans w;clear w;go_wp2_with fail;go_roundw
    case rel=>exact ⟨b,T,H,by omega,Q,by go_num,by first | rfl | trivial,S⟩
    case measure=>exact zr
   .obtain rfl:a=p:=oM;have M:=a9 d v;subst M;go_wp2_with fail;go_ret;exact ⟨rfl,l⟩
def TabW.G {a b d} (e:TabW b) (i:VB a b d) (hB:0 < a) (g:0 < b.heap.size):TabW d:=
 λc f=>(i.2.cell (p:=⟨0,c,none⟩) g (by show ¬(a<=0);omega)).trans (e c f)
def aFv {g m u G H:Nat} {lv:Nat} (J:Int) {z} {v r o:Nat} {c} (ht:TreeAt c m z) (P:Bk c u 3 #[(r:Int)]) (T:Bk c G 3 #[(o:Int)]) (W:Bk c H 3 #[(lv:Int)]) (am:lv < 9) (an:o < 257) (S:z[v]?=some (iF o lv)) (O:(z.take v).count (iF o lv)=r) (L:TabW c) (hB:0 < g) (aj:g<=m):
 Calls prog 182 #[.agg #[m,(lv:Int),(J:Int)],u,G,H] c λK ay=>K=.returned (.tuple #[])/\
  ∃w1,VB g c w1/\Bk w1 u 3 #[(r:Int)]/\ay=w1.setCell u (.int .i64 v):=by
 have ar:=P.lt;have au:=T.lt;have av:=W.lt;have a1:0 < c.heap.size:=L.pos;obtain ⟨q,B⟩:=eqx (iF o lv);rw [B] at S O;obtain ⟨a3,R⟩:=eqx (Obj.cells #[m,(lv:Int),(J:Int)] 194);have n:=(kg c.heap.size c).alloc nL a3;have D:=kd c 194 #[m,(lv:Int),(J:Int)];rw [R] at D;have aw:=D.lt;obtain ⟨x,N⟩:=eqx (c.alloc a3);have V:=ht.below n;have Q:=P.below n ar;have U:=T.below n au;have X:=W.below n av;have M:=L.below n a1;rw [N] at n D V Q U X M aw;have a2:=n.size;obtain ⟨a9,ad,aa,ag,Z,ae,ah,a7,a6⟩:=hqq9 B S O V Q U X M n;obtain ⟨af,ac,a8,ab⟩:=hqq4 D R N a2;clear B S O ht P T W L n D R V Q U X M N a2;go_enter func182,ntmps182;go_wp2_with fail;rw [ac.out,a8.out];refine wp_region_any kR<|cC (pre:=(λ_=>True)) (pJ:=(is (v:Int))) g 7 [5,6,7,8,9,10,11] (λ_=>False) 6 [] [is c.heap.size,is m,is (r:Int),is (o:Int),is (lv:Int),is (.bool q),cO] _ rfl dC kR kR kR (trivial) (λ_ _ _ _ _=>trivial) (jN _ _) tA0 ?_ ?_
 .refine bB<|pH3 4 (.pointer (some c.heap.size))<|sC3 (λ_ d a _ _ _ _ l _ _ _ e=>?_) ?_
  .replace a:VFB g (λ_=>False) x d:=fD a;have aG:_=_:=l 0 5 kR rfl;have Y:d.cell? c.heap.size=some (.pointer (some m)):=((a.1.d af dC dC (λk=>k)).cell 0).trans rfl;go_simp;exact e _ _ (aI vR) rfl
  refine sC3 (λt d a _ _ _ C _ _ _ _ e=>?_) ?_
  .replace a:VFB g (λ_=>False) x d:=fD a;have aC:t (.tmp 1)=.pointer (some u):=C 1 kR;have Y:d.cell? u=some (.int .i64 r):=((a.1.d Z dC dC (λk=>k)).cell 0).trans rfl;go_simp;exact e _ _ (aI vR) rfl
  refine sC3 (λt d a _ _ _ C _ _ _ _ e=>?_) ?_
  .replace a:VFB g (λ_=>False) x d:=fD a;have aE:t (.tmp 2)=.pointer (some G):=C 2 kR;have Y:d.cell? G=some (.int .i64 o):=((a.1.d ae dC dC (λk=>k)).cell 0).trans rfl;go_simp;exact e _ _ (aI vR) rfl
  refine sC3 (λt d a _ _ _ C _ _ _ _ e=>?_) ?_
  .replace a:VFB g (λ_=>False) x d:=fD a;have aF:t (.tmp 3)=.pointer (some H):=C 3 kR;have Y:d.cell? H=some (.int .i64 lv):=((a.1.d ah dC dC (λk=>k)).cell 0).trans rfl;go_simp;exact e _ _ (aI vR) rfl
  refine sC3 (λ_ d _ _ _ _ _ l _ _ _ e=>?_) ?_
  .have aK:_=_:=l 3 8 kR rfl;have aL:_=_:=l 4 9 kR rfl;go_simp;refine (oQ (s:=o) (lv:=lv) d an am).mono ?_;rintro K az ⟨rfl,al⟩;rw [a9.out];exact e _ _ (aI (kc al)) rfl
  refine sC3 (λ_ d a _ _ _ _ l _ _ _ e=>?_) ?_
  .replace a:VFB g (λ_=>False) x d:=fD a;have aH:_=_:=l 1 6 kR rfl;have aJ:_=_:=l 2 7 kR rfl;have aD:_=_:=l 5 10 kR rfl;go_simp;have y:=VFB.y a (λq _ k=>k);have ao:=ag.b y.1;have ak:=a7.G y hB (zAl a1 ab);refine (aAY (gt:=m) (bs:=z) (p:=v) (j:=r) (b:=q) (w:=d) ao ad aa ak oM).mono ?_;rintro K az ⟨rfl,ap⟩;exact e _ _ (aI (ap.mono λq B=>by rcases B with rfl;exact aj)) rfl
  exact aB
 .intro t E A a l a0;replace a:VFB g (λ_=>False) x E:=fD a;have ai:t (.tmp 11)=.int .i64 v:=l 6 11 dC rfl;obtain ⟨ax,a5⟩:=a0 6 dC;have a4:(is (v:Int)) ax E:=a5;clear a5 a0;simp only [zqq];rw [ai];clear l;have y:=VFB.y a (λq _ k=>k);have I:=y.1.d Z dC dC;have aA:E.cell? u=some (.int .i64 r):=(I.cell 0).trans rfl;have aM:=I.frozen 0;have aq:=(kc (F:=λq=>g<=q) a6).trans y;have aN:=I.lt;clear y a a4;change wpAny prog Region.Mode.any _ _ (1+A) (bT 7 8) _ E;rw [zCt 1 A];refine aY (f:=A) (i:=7) kR ?_;refine bJ rfl rfl ?_;generalize e:wpAny prog _ _ _ A _=K5;go_simp;subst e;refine bG kR ?_;go_wp2_with fail;go_end0;exact ⟨rfl,E,aq,I,rfl⟩
def aJK {B gv gt gn gs gw:Nat} {S:Nat->Value} {n v:Int} (m:Int) {lv:Nat} {bs} {r j s:Nat} {w0 w} (C:Bk w gv 191 (wcells S n v)) (k:TreeAt w0 gt bs) (l:Vis w0 w) (x:w0.heap.size<=gn) (d:Bk w gn 3 #[(j:Int)]) (i:Bk w gs 3 #[(s:Int)]) (g:Bk w gw 3 #[(lv:Int)]) (y:lv < 9) (A:s < 257) (z:bs[r]?=some (iF s lv)) (u:(bs.take r).count (iF s lv)=j) (f:TabW w) (hB:0 < B) (t:B<=gv) (q:B<=gt) (p:B<=gn):
 Calls prog 161 #[gv,.agg #[gt,(lv:Int),(m:Int)],.func (.func 182) #[] #[gn,gs,gw]] w λe b=>e=.returned (.tuple #[])/\
  VisF (λc=>c=gn) w b/\Keep (λc=>B<=c) w b/\Bk b gn 3 #[(r:Int)]:=
 aCF (mM func182 kR kR) C k l x d t p λD a=>(aFv m ((k.b l).below a) (d.below a d.lt) (i.below a i.lt) (g.below a g.lt) y A z u (f.below a f.pos) hB q).mono λe b o=>o
def VisF.Q {d i j b} {e:Nat->Value} {f g} (k:VisF d i j) (l:Bk i b 191 (wcells e f g)) (m:¬d b):∃c,Bk j b 191 (wcells e f c):=by
 rcases VisF.bu k l m with a |⟨c,a⟩;exact ⟨g,a⟩;rw [eS] at a;exact ⟨c,a⟩
def aNP (d:Value) (c:World):Nat:=match d with
 | .pointer (some a)=>match c.cell? a with
  | some b=>(intOf b+1).toNat
  | none=>0
 | _=>0
def aEP {b a c} (d:b.cell? a=some (.int .i64 c)):aNP (.pointer (some a)) b=(c+1).toNat:=by
 show (match b.cell? a with | some e=>(intOf e+1).toNat | none=>0)=_;rw [d];rfl
def aAR {B gv L r j s w} (d:WaveAt w B gv L) (a9:L[r]?=some s) (a6:(L.take r).count s=j) (a4:∀u∈L,u < 257) (aW:L.length<=1000) (aO:TabW w) (aN:0 < B):
 Calls prog 130 #[gv,(j:Int),(s:Int)] w λF cb=>F=.returned (.int .i64 r)/\VB B w cb:=by
 have X:=(zAc.1 a9).1;have ar:=(zAc.1 a9).2;have Y:s < 257:=by rw [<-ar];exact a4 _ (zBj X)
 have am:(L.take r).count s < L.count s:=by
  have cy:L.count s=(L.take (r+1)).count s+(L.drop (r+1)).count s:=by rw [<-zCc,zAu]
  have cz:(L.take (r+1)).count s=(L.take r).count s+1:=by rw [zAv,a9,zCc];simp
  omega
 have aK:=nG (L:=L) (k:=r) (s0:=s) (zCm X) a4 Y;have ah:=aCu L r s;rw [a6] at ah am;have aS:∀lv,(aM L lv (bF s lv))[gO L r s lv]?=some (iF s lv):=λlv=>by have:=aDq (L:=L) (k:=r) lv X;rw [ar] at this;exact this
 have b4:=d;obtain ⟨bO,K,c9,D,b0⟩:=d;obtain ⟨C,a8⟩:=eqx L.length;have ap:(L.take C).count s=L.count s:=by rw [<-a8,zFf]
 obtain ⟨az,aZ⟩:=eqx (L.count s);rw [aZ] at ap am;rw [a8] at D X;have bY:=D.lt;have bV:decide ((j:Int) < 0)=false:=zs
 have T:=((kg w.heap.size w).alloc nL (.cells #[(j:Int)] 3)).alloc zs (.cells #[(s:Int)] 3);have H:=(kd w 3 #[(j:Int)]).alloc (.cells #[(s:Int)] 3);have m:=kd (w.alloc (.cells #[(j:Int)] 3)) 3 #[(s:Int)];rw [sZ0] at m;obtain ⟨N,aj⟩:=eqx ((w.alloc (.cells #[(j:Int)] 3)).alloc (.cells #[(s:Int)] 3));obtain ⟨c,a5⟩:=eqx w.heap.size;obtain ⟨x,aU⟩:=eqx (c+1);rw [aj] at T H m;rw [a5] at H;rw [a5,aU] at m;have cN:=H.lt;have cP:=m.lt;obtain ⟨br,ba,bE,ae,aD,bz,bi,bc,bd⟩:=hqq9 ah aK (b4.b (kb T)) (D.below T bY) D b0 aS a4 a8;obtain ⟨bu,bx,bt,bf,a2,J,bh,bj,cc⟩:=hqq9 aW ap (show ¬az<=j by omega) aO H m aj T a5;have cd:=lhd aU;clear ah aK b4 D b0 aS a4 a8 ap aZ am a6 a9 ar aO H m aj T aW X;go_enter func130,ntmps130;go_wp2_with fail;rw [bh.out];refine wp_region_any kR<|aQ (S:=(VB B)) (V:=(Vs [is gv,is (.bool false),is (.bool false),is (j:Int),is (.bool false),is (.bool false),is (.bool false),is (j:Int),is gv,is gv,is gv,is (.pointer (some ⟨gv,9,none⟩)),is (C:Int),is (s:Int),is (az:Int),is (.bool false),is (.bool false)])) [8,9,10,11,12,13,14,15,16,17,18,19,20,21,22,23,24] _ rfl kR vR (λ_ _=>VisK.trans) (dI tA0) ?_ ?_
 .refine aL<|pH 0 (.pointer (some gv))<|pV 0 8<|pV 1 9<|sG 10 false (λl b a _ _ t _ _ _ _ f=>?_) ?_
  .have aF:l (.tmp 4)=.pointer (some c):=t 4 kR;replace a:(VB B) N b:=bD a;have a1:b.cell? c=some (.int .i64 j):=((a.1.d a2 dC dC).cell 0).trans rfl;go_simp;exact f _ _ vR rfl
  refine gV 10 false 3 11<|pW 2 10 4 12<|pV 5 13<|sG 14 false (λl b a _ _ t _ _ _ _ f=>?_) ?_
  .have aF:l (.tmp 4)=.pointer (some c):=t 4 kR;replace a:(VB B) N b:=bD a;have a1:b.cell? c=some (.int .i64 j):=((a.1.d a2 dC dC).cell 0).trans rfl;go_simp;exact f _ _ vR rfl
  refine gH 14 false 0 (.pointer (some gv))<|gH 14 false 0 (.pointer (some gv))<|gV 14 false 9 17<|gV 14 false 10 18<|sG 14 false (λ_ b a _ _ _ g _ _ _ f=>?_) ?_
  .have cl:_=_:=g 11 19 kR rfl;replace a:(VB B) N b:=bD a;obtain ⟨M,Z⟩:=a.1.Q ae;have bL:b.cell? ⟨gv,9,none⟩=some (.int .i64 C):=(Z.cell 9).trans (cK K C M).2.2.2.2.2.2.2.2.2.1;go_simp;exact f _ _ vR rfl
  refine sG 14 false (λl b a _ _ t _ _ _ _ f=>?_) ?_
  .have aG:l (.tmp 5)=.pointer (some x):=t 5 kR;replace a:(VB B) N b:=bD a;have a1:b.cell? x=some (.int .i64 s):=((a.1.d J dC dC).cell 0).trans rfl;go_simp;exact f _ _ vR rfl
  refine sG 14 false (λ_ b a _ _ _ g _ _ _ f=>?_) ?_
  .have ck:_=_:=g 8 16 kR rfl;have cm:_=_:=g 12 20 kR rfl;have cn:_=_:=g 13 21 kR rfl;replace a:(VB B) N b:=bD a;go_simp;refine (iZ (B:=B) (gv:=gv) (L:=L) (s:=s) (w:=b) C (bE.b a.1) Y (zCv bd.symm) bc bu).mono ?_;rintro F b7 ⟨rfl,c1⟩;rw [bx.out];exact f _ _ c1 rfl
  refine sG 14 false (λ_ _ _ _ _ _ g _ _ _ f=>?_) ?_
  .have cj:_=_:=g 7 15 kR rfl;have co:_=_:=g 14 22 kR rfl;have bW:=bt.out;have cG:=zBy bW;go_simp;exact f _ _ vR rfl
  refine pW 6 14 15 23 ?_;exact aB
 .intro l y a g;replace a:(VB B) N y:=bD a;have bM:l (.tmp 24)=.bool false:=g 16 24 rfl;simp only [zqq];rw [bM];clear g;have av:VB B w y:=(kc (a5 ▸ bj)).trans a;have H:=a.1.d a2 dC dC;have m:=a.1.d J dC dC;have c0:=a.1.size;obtain ⟨af,bR⟩:∃u,u=y:=⟨_,rfl⟩;subst bR;have aJ:=kd af 3 #[(8:Int)];have aT:=H.alloc (.cells #[(8:Int)] 3);have an:=m.alloc (.cells #[(8:Int)] 3);have b1:=av.alloc (.cells #[(8:Int)] 3);obtain ⟨bb,bl,bn,bA⟩:=hqq4 aJ aT an b1;have cA:B<=c:=oM;have cE:w.heap.size<=af.heap.size:=av.1.size;clear aJ aT an b1 H m a av a2 J bV;go_wp2_with fail;go_loopw [7] (λu wr=>∃(q A:Nat) (Q:Int),A<=9/\Q=A - 1/\u=.pointer (some q)/\Bk wr q 3 #[(Q:Int)]/\Bk wr c 3 #[.int .i64 (gO L r s A:Nat)]/\Bk wr x 3 #[(s:Int)]/\VB B w wr/\x < q) (λu wr=>aNP u wr)
  case atStart=>exact ⟨af.heap.size,9,8,by omega,by omega,rfl,bb,by rw [br.out];exact bl,bn,bA,by omega⟩
  case round=>
   obtain ⟨q,c4,Q,cI,c2,rfl,z,U,m,I,an⟩:=hrel;have aE:wr.cell? q=some (.int .i64 Q):=(z.cell 0).trans rfl;rcases c4 with _ | lv
   .have c3:=zn (Q>=0);have bK:wr.cell? c=some (.int .i64 (gO L r s 0:Nat)):=(U.cell 0).trans rfl;rw [ba.out] at bK;have R:=lhd I;clear U m z I;go_wp2_with fail;go_ret;exact ⟨rfl,R⟩
   .obtain rfl:Q=lv:=oM;have a7:lv < 9:=oM;have c3:=zy ((lv:Int)>=0);obtain ⟨ad,O,au⟩:=bz lv a7;obtain ⟨A,ao⟩:=eqx (2 ^ lv);obtain ⟨o,W⟩:=eqx (bF s lv);have aY:o < A:=(by rw [<-ao,<-W];exact nY (s:=s) lv Y oM);rw [ao] at O au;obtain ⟨G,ag,ai,cJ,cD⟩:=kj O oM;rw [ai] at O;obtain ⟨u,ab⟩:=eqx (gO L r s lv);obtain ⟨b8,ac⟩:=eqx (gO L r s (lv+1));have ax:=nH (lv:=lv) L r s a7;have aw:=bi lv;rw [W,ab,ac] at ax;rw [W,ab] at aw;rw [ac] at U;have cL:(o:Int) < A:=oM;have aX:=I.1.own O dC dC;have cF:=O.lt;have aV:∀e,(Value.slice (some G) A ag).ownBlock=some e->e≠c:=λe al=>by have cB:G=e:=(by simpa [Value.ownBlock] using al);omega
    have bq:=lhd aV;clear aV;have aa:∃b6,Bk wr gv 191 (wcells K C b6):=I.1.Q aD;obtain ⟨b6,aa⟩:=aa;have aP:=bf.G I aN oM;have cM:=I.1.size;obtain ⟨bJ,bI,bv,aA,bw,bH,ce,R,be⟩:=hqq9 ax aw aX (au o aY) W ab ac I ai;obtain ⟨ae,bg,a3,J,bp,b9⟩:=hqq6 aa aP z m U aE;obtain ⟨E,bS⟩:∃u,u=wr:=⟨_,rfl⟩;subst bS;clear O au ai ao W ab ac ax aw I aX aa aP z m U c2;go_wp2_with fail;refine wp_region_any kR<|cC (pre:=(λP=>Bk P c 3 #[(b8:Int)])) (pJ:=(λ_ P=>Bk P c 3 #[(u:Int)])) B 14 [29,30,31,32,33,34,35,36,37,38,39,40,41,42] (λe=>e=c) 13 [13] [is gv,is gv,is (lv:Int),is gv,is gv,is (.pointer (some ⟨gv,lv,none⟩)),is (.slice (some G) A ag),is (s:Int),is (lv:Int),is (o:Int),is (.pointer (some ⟨G,o*3,none⟩)),is (.agg #[.pointer (some ⟨ad o,0,none⟩),(lv:Int),(o:Int)]),is (.func (.func 182) #[] #[c,x,q]),cO] _ rfl dC kR kR kR (bp) (λw1 P d _ a0=>a0.1.d d dC dC) (λ_ _ _ d a0=>a0.1.d d dC dC) tA0 ?_ ?_
    .refine bB<|pH3 0 (.pointer (some gv))<|pH3 0 (.pointer (some gv))<|sC3 (λl b a _ _ _ t _ _ _ _ f=>?_) ?_
     .replace a:VFB B (λe=>e=c) E b:=fD a;have aH:l (.tmp 7)=.pointer (some q):=t 7 kR;have a1:b.cell? q=some (.int .i64 lv):=((a.1.d a3 dC dC (λd=>absurd (show q=c from d) oM)).cell 0).trans rfl;go_simp;exact f _ _ (aI vR) rfl
     refine pV3 1 30<|pV3 3 32<|sC3 (λ_ _ _ _ _ _ _ g _ _ _ f=>?_) ?_
     .have cr:_=_:=g 4 33 kR rfl;have cq:_=_:=g 2 31 kR rfl;have cH:(lv:Int) < 9:=oM;go_simp;exact f _ _ (aI vR) rfl
     refine sC3 (λ_ b a _ _ _ _ g _ _ _ f=>?_) ?_
     .replace a:VFB B (λe=>e=c) E b:=fD a;have cs:_=_:=g 5 34 kR rfl;obtain ⟨M,Z⟩:=a.1.Q ae (λd=>absurd (show gv=c from d) oM);have bL:b.cell? ⟨gv,lv,none⟩=some (.slice (some G) A ag):=(Z.cell lv).trans ((vZ (i:=lv) K C M a7).trans (congrArg some be));go_simp;exact f _ _ (aI vR) rfl
     refine sC3 (λl b a _ _ _ t _ _ _ _ f=>?_) ?_
     .replace a:VFB B (λe=>e=c) E b:=fD a;have aG:l (.tmp 5)=.pointer (some x):=t 5 kR;have a1:b.cell? x=some (.int .i64 s):=((a.1.d J dC dC (λd=>absurd (show x=c from d) oM)).cell 0).trans rfl;go_simp;exact f _ _ (aI vR) rfl
     refine sC3 (λl b a _ _ _ t _ _ _ _ f=>?_) ?_
     .replace a:VFB B (λe=>e=c) E b:=fD a;have aH:l (.tmp 7)=.pointer (some q):=t 7 kR;have a1:b.cell? q=some (.int .i64 lv):=((a.1.d a3 dC dC (λd=>absurd (show q=c from d) oM)).cell 0).trans rfl;go_simp;exact f _ _ (aI vR) rfl
     refine sC3 (λ_ b _ _ _ _ _ g _ _ _ f=>?_) ?_
     .have ct:_=_:=g 7 36 kR rfl;have cu:_=_:=g 8 37 kR rfl;go_simp;refine (mI (s:=s) lv b Y oM).mono ?_;rintro F b7 ⟨rfl,ak⟩;rw [bw.out];exact f _ _ (aI (kc ak)) rfl
     refine pW3 6 35 9 38<|sC3 (λ_ b a _ _ _ _ g _ _ _ f=>?_) ?_
     .replace a:VFB B (λe=>e=c) E b:=fD a;have cv:_=_:=g 10 39 kR rfl;have aq:=aC bv λe ci al D=>a.1.d D dC dC (λd=>absurd (show e=c from d) (bq e al));obtain ⟨c6,c7,c8⟩:=gF ad lv A o aY;have cf:b.cell? ⟨G,o*3,none⟩=_:=(kh aq (o*3) oM).trans c6;have cg:b.cell? ⟨G,o*3+1,none⟩=_:=(kh aq (o*3+1) oM).trans c7;have ch:b.cell? ⟨G,o*3+2,none⟩=_:=(kh aq (o*3+2) oM).trans c8;go_simp;exact f _ _ (aI vR) rfl
     refine sC3 (λl _ _ _ _ _ t _ _ _ _ f=>?_) ?_
     .have aF:l (.tmp 4)=.pointer (some c):=t 4 kR;have aG:l (.tmp 5)=.pointer (some x):=t 5 kR;have aH:l (.tmp 7)=.pointer (some q):=t 7 kR;go_simp;exact f _ _ (aI vR) rfl
     refine sC3 (λ_ b a bQ _ _ _ g _ _ _ f=>?_) ?_
     .replace a:VFB B (λe=>e=c) E b:=fD a;have bZ:=bQ rfl;have cp:_=_:=g 0 29 kR rfl;have cw:_=_:=g 11 40 kR rfl;have cx:_=_:=g 12 41 kR rfl;go_simp;have b3:Vis w b:=(VisF.trans (VisF.C R.1) a.1).ak (λe D F=>by have:e=c:=F;omega);obtain ⟨M,Z⟩:∃M,Bk b gv 191 (wcells K C M):=b3.Q aD;have m:=a.1.d J dC dC (λd=>absurd (show x=c from d) oM);have z:=a.1.d a3 dC dC (λd=>absurd (show q=c from d) oM);have bP:TabW b:=λj a6=>(a.2.cell (p:=⟨0,j,none⟩) (by show 0 < E.heap.size;omega) (by show ¬(0=c∨B<=0);omega)).trans (bg j a6);refine (aJK (B:=B) (gv:=gv) (gt:=(ad o)) (gn:=c) (gs:=x) (gw:=q) (S:=K) (n:=C) (v:=M) (lv:=lv) (bs:=(aM L lv o)) (r:=u) (j:=b8) (s:=s) (w0:=w) (w:=b) o Z aA.2 b3 oM bZ m z a7 Y bI bJ bP aN bO aA.1 oM).mono ?_;rintro F b7 ⟨rfl,bU,bX,ak⟩;exact f _ _ (lC ⟨bU,bX.mono λe _ d=>.inr d⟩) ak
     exact aB
    .intro l y bN a g aR;replace a:VFB B (λe=>e=c) E y:=fD a;obtain ⟨ca,b5⟩:=aR 13 dC;have ay:(λ_ P=>Bk P c 3 #[(u:Int)]) ca y:=b5;clear b5 aR;simp only [zqq];clear g;change wpAny prog Region.Mode.any _ _ (0+bN) (bT 14 14) _ y;refine bG kR ?_;have m:=a.1.d J dC dC (λd=>absurd (show x=c from d) oM);have z:=a.1.d a3 dC dC (λd=>absurd (show q=c from d) oM);have b2:VB B w y:=⟨(VisF.trans (VisF.C R.1) a.1).ak (λe D F=>by have:e=c:=F;omega),R.2.trans (a.2.mono λe _ d=>by rcases d with d | d;(have:e=c:=d;omega);exact d)⟩;have c0:=a.1.size;have aE:y.cell? q=some (.int .i64 lv):=(z.cell 0).trans rfl;have cQ:=z.lt;obtain ⟨bo,bm,bC⟩:=hqq3 m ay b2;clear m z b2 a ay;go_wp2_with fail;refine ⟨⟨y.heap.size,lv,(lv:Int) - 1,by omega,rfl,rfl,kd _ _ _,by rw [bH.out];exact bm.alloc _,bo.alloc _,bC.alloc _,by omega⟩,?_⟩;have c5:=((kd y 3 #[.int .i64 ((lv:Int) - 1)]).cell 0);rw [aEP (c5.trans rfl),aEP b9];omega
end Go.Proofs.YtknjfpcdhdmghaaGreatDoor
