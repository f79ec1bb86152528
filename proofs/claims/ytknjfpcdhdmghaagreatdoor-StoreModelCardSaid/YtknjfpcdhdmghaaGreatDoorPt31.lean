/- Lemmas of the walk. Conditions: each its own. -/
import Derived.Test.YtknjfpcdhdmghaaGreatDoorPt27
import Derived.Test.YtknjfpcdhdmghaaGreatDoorPt29
set_option linter.all false
set_option maxRecDepth 100000
set_option maxHeartbeats 4000000
open Go.Proofs.Tryz
namespace Go.Proofs.YtknjfpcdhdmghaaGreatDoor
section
open Go.RowKit Go.Shelf
def LiveE (w:World) (B:Nat) (own:Nat->Nat) (gl:Nat) (t:List UInt8) (rate:Nat):Prop:=
 ∃gk d a c e b,TxM w B own gl gk d rate a (aG t) c t.length e b/\Smp b 0/\sX (Smp b) rate t.length/\0<=a/\a<=(t.length:Int)+1
def LiveE.b {w w' B own gl t rate} (c:LiveE w B own gl t rate) (f:Vis w w'):LiveE w' B own gl t rate:=by
 obtain ⟨gk,b,g,a,j,i,d,e⟩:=c;exact ⟨gk,b,g,a,j,i,d.b f,e⟩
def LiveE.q {w B own gl t rate} (b:LiveE w B own gl t rate):∀a,own a≠0->B<=a/\a < w.heap.size:=by
 obtain ⟨gk,e,g,d,j,i,c,f⟩:=b;exact c.live.q
def TxM.len {w B own gl gk g rate j t d a b k} (e:TxM w B own gl gk g rate j (aG t) d a b k) (i:t.length=a):(aH (aG t) b).length=a+1/\d.length=a+1/\b.length=a+1:=by
 have c:=e.aa.len;rw [aO,i] at c;have f:(aH (aG t) b).length=a+1:=by rw [bY,c]
 exact ⟨f,by rw [e.ag.length_eq,f],c⟩
def TxM.c6 {w B own gl gk m rate o j k i p d} (a:TxM w B own gl gk m rate o j k i p d):∀b∈d,∀c∈d,b.2=c.2->b=c:=λb f c g l=>by
 have n:=a.right b f;have e:=a.right c g;rw [<-l] at e;exact a.live.perm.inj f g (zC a.aa n e)
def qK {c a g b} (d:IsSuf c a) (e:EndOk c g) (n:0 < b) (p:b<=g):cR (aH c a) (c.getD (b - 1) 0) (ro a b)=ro a (b - 1)/\(aH c a)[ro a b]?=some (c.getD (b - 1) 0):=by
 have q:=d.len;have o:=e.len;have l:b∈a:=d.mem oM;have m:b - 1∈a:=d.mem oM;have f:ro a b < a.length:=zDk.2 l;have k:ro a (b - 1) < a.length:=zDk.2 m;have i:a[ro a b]=b - 1+1:=by rw [zFl];omega
 have j:a[ro a (b - 1)]=b - 1:=zFl _;refine ⟨lf d e f k i j,?_⟩;have:=uT e f i oM;rw [zAa (by rw [bY];exact f),this]
def aD1 (w:World) (B:Nat) (own:Nat->Nat) (gl:Nat) (t:List UInt8) (rate:Nat) (a:Ending) (w':World):Prop:=a=.returned (.int .i64 0)/\∃own',LiveE w' B own' gl t rate/\LF B w w' own own'
def aFL {w B own gl t rate} (a j) (bL:LiveE w B own gl t rate) (bV:t.length<=894) (x:a<=t.length) (bv:1<=rate) (c2:rate<=64):
 Calls prog 64 #[gl,(a:Int),.int .u8 j.toNat] w (aD1 w B own gl (aT t a j) rate):=by
 obtain ⟨gk,H,cl,M,i,A,p,ax,am,_⟩:=bL;obtain ⟨o,Q⟩:=eqx t.length;have a3:=Q;rw [Q] at p am bV x;obtain ⟨n,ba,aw⟩:=p.len Q;have y:=fA t;rw [Q] at y;obtain ⟨b,bz⟩:=eqx (j.toNat+1);have ay:b < 257:=zj j.toNat_lt
 have c7:0 < b:=oM;obtain ⟨F,u⟩:=eqx (aG t);have bO:aG (aT t a j)=aT F a b:=by rw [aKe t j oM,u,bz]
 have ah:=y.len;have b9:∀c∈F,c < 257:=by rw [<-u];exact eX t
 rw [u] at y n ah;obtain ⟨f,a4⟩:=eqx (ro i a);have z:=p.aa;rw [u] at z;have a7:∀e,e<=o->e∈i:=λe cj=>z.mem oM;have av:i[f]?=some a:=by rw [<-a4];exact cE (a7 a x)
 have bn:f < o+1:=by rw [<-aw];exact (zAc.1 av).1
 obtain ⟨K,a9⟩:=aLb z y (s:=b) x c7;have a8:i.Nodup:=z.nodup;have au:i.Perm (List.range (o+1)):=by have:=z.perm;rwa [ah] at this
 obtain ⟨row,T⟩:=eqx (cR (aH F i) b (ro i a));rw [T] at K a9;have I:=aI2 a8 au y (s:=b) (row:=row) x K;obtain ⟨bF,ad,bG⟩:=aKB a8 (at_:=a) (row:=row) K;obtain ⟨a0,b8⟩:=eqx (aT (i.map (sh a)) row a);rw [b8] at a9 I bF ad bG;rw [a4] at T I;obtain ⟨E,r⟩:=eqx (aH F i);rw [r] at T I n;obtain ⟨ac,ar⟩:=eqx (bS F a);rw [ar] at I;have a2:E[f]?=some ac:=by rw [<-r,<-ar];unfold aH;rw [zAf,av];rfl
 have P:∀c∈E,c < 257:=by rw [<-r];exact dR b9
 have bX:ac < 257:=P ac (zAd a2);rw [aw] at K;have J:=p.live;rw [u,r] at J;have L:=p.ag;rw [u,r] at L;have bA:∀c∈E.set f b,c < 257:=λc l=>by rcases zER l with N | N;exact P c N;omega
 have c5:(E.set f b)[f]?=some b:=by rw [zDq oM]
 have bW:uL (E.set f b) M b f=row:=by rw [<-T];unfold uL cR;rw [L.countP_eq,List.take_set_of_le nL]
 have c8:(M++ [b]).Perm (aH (aT F a b) a0):=by rw [I];refine (zGb).trans<|((L.cons b).trans (zX a2).symm).trans ?_;exact (fU _ _ _).symm
 have c0:∀c∈(A.map λc=>(inR c.1 row,c.2)).map (λc=>(c.1,inR c.2 a)),a0[c.1]?=some c.2:=λc l=>by
  rw [zCh] at l;obtain ⟨m,U,rfl⟩:=zAy.1 l;have N:=p.right m U;have aW:=zAd N;have O:=ad m.2 aW;have a1:sh a m.2=inR m.2 a:=by unfold sh inR;split <;> split <;> omega
  rw [gR a8 N] at O;show a0[inR m.1 row]?=some (inR m.2 a);rw [<-O,<-a1];refine cE (a9.mem.2 ?_);have:=au.mem_iff.1 aW;rw [zCj] at this;unfold sh;split <;> omega
 have bZ:∀e,Smp ((A.map λc=>(inR c.1 row,c.2)).map (λc=>(c.1,inR c.2 a))) e↔∃b,Smp A b/\e=sh a b:=λe=>by
  have a1:∀aI,sh a aI=inR aI a:=λaI=>by unfold sh inR;split <;> split <;> omega
  unfold Smp;rw [zCh];constructor;rintro ⟨c,l,rfl⟩;obtain ⟨m,U,rfl⟩:=zAy.1 l;exact ⟨m.2,⟨m,U,rfl⟩,(a1 _).symm⟩;rintro ⟨_,⟨m,U,rfl⟩,rfl⟩;exact ⟨_,zAy.2 ⟨m,U,rfl⟩,(a1 _).symm⟩
 have bt:∀b,Smp A b->b<=o:=λb ⟨c,l,d⟩=>by have:=(J.perm.2.2 c l).2;omega
 have bY:=λ(bK:Nat->Prop) (bN:∀e,bK e↔∃b,Smp A b/\e=sh a b)=>aGy am ax bt bv x bN;have c1:A≠ []:=λd=>by obtain ⟨c,l,_⟩:=ax;rw [d] at l;cases l
 obtain ⟨G,v⟩:∃G:Int,(if a=0 then -1 else ((ro i (a - 1):Nat):Int))=G:=⟨_,rfl⟩;have bc:∀D,VB B w D∨True->LiveM D B own gl gk H rate 0 (o+1) (o+1) E M A->Calls prog 106 #[gl,(a:Int),(f:Int)] D λd w'=>d=.returned (.int .i64 G)/\VB B D w':=λD _ bM=>by by_cases k:a=0;rw [zBx k] at v;subst k v;refine (qT f D gl).mono ?_;rintro d w' ⟨rfl,rfl⟩;exact ⟨rfl,VisK.refl _ _⟩;rw [zBw k] at v;obtain ⟨b1,b2⟩:=qK z y oM x;rw [r,a4] at b1 b2;have:=tR a bM oM b2 P oM oM;rw [mZ L,b1,v] at this;exact this
 have bP:inI G (row:Int)=aOf a0 a:=by
  rw [<-v];unfold aOf;by_cases k:a=0
  .rw [zBx k,zBx k,aH0]
  .rw [zBw k,zBw k,zH];have O:=ad (a - 1) (a7 _ oM);rw [show sh a (a - 1)=a - 1 by unfold sh;rw [zBx oM]] at O;rw [O]
 have bQ:-1000000<=G/\G<=1000000:=by rw [<-v];by_cases k:a=0;rw [zBx k];omega;rw [zBw k];have ck:ro i (a - 1) < i.length:=zDk.2 (a7 (a - 1) oM);omega
 have bR:(a:Int)<=o:=oM;have bp:=cD (J.g L).ai n oM;have be:=J.a;have c3:=p.right;have c6:=p.aa;unfold aD1;clear Q ad bG am ax z a7 y au a8 T b8 ar aw ah bt a4 v;go_enter func64,ntmps64;go_wp2_with fail;refine bp.mono ?_;clear bp;rintro d w1 ⟨rfl,rfl⟩;go_wp2_with fail;refine (aEa be oM bR).mono ?_;rintro d w1 ⟨rfl,rfl⟩;obtain ⟨ao,ai⟩:=J.ah 0;clear be J p;generalize w.setCell ⟨gl,3,none⟩ (.int .i64 0)=w1 at ao ai⊢;go_wp2_with fail;refine (rZ j w1).mono ?_;rintro d ae ⟨rfl,bd⟩;rw [bz];have aB:VB B w1 ae:=kc bd;have ap:=ao.b aB.1;have aK:=(ai.trans (LF.i (own:=own) aB));clear bd aB;have bx:Calls prog 66 #[gl,(a:Int)] ae λd w'=>d=.returned (.int .i64 f)/\VB B ae w':=by have bT:=ap.g L;have:=gP B gl gk H rate ae (by rw [a3,u];rw [r];exact bT) c3 c6 (by rw [a3];omega) av;exact this
 go_wp2_with fail;refine bx.mono ?_;clear bx;rintro d cn ⟨rfl,aC⟩;have X:=(ap.b aC.1);have aL:=(aK.trans (LF.i (own:=own) aC));clear aC ap aK ao ai;obtain ⟨ci,ch,bk,bC⟩:=X.gw;have C:=X.a.cell 0;have V:=bk.cell 0;have bj:=eR f ac bC (by rw [n];exact bn) (by have aX:=a2;rw [zAa (by rw [n];exact bn)] at aX;injection aX) P (by rw [n];omega);clear bk bC;go_wp2_with fail;refine bj.mono ?_;clear bj;rintro d cf ⟨rfl,aD⟩;have af:=(X.b aD.1);have aM:=(aL.trans (LF.i (own:=own) aD));clear aD C V X aL;have bb:=bc cf (.inr trivial) af;clear bc;go_wp2_with fail;refine bb.mono ?_;clear bb;rintro d D ⟨rfl,aE⟩;have Y:=(af.b aE.1);have aN:=(aM.trans (LF.i (own:=own) aE));clear aE af aM;have C:=Y.a.cell 0;have bf:=lQ Y.walk a2 ay P (by rw [n];omega);go_wp2_with fail;refine bf.mono ?_;clear bf;rintro d co ⟨rfl,own1,aY,b3⟩;obtain ⟨aq,R⟩:=Y.I aY b3;have W:=(aN.trans R);clear R aY b3 C Y aN;have az:=zN aq c5 bA (by rw [zAt,n];omega) (by rw [ba];omega);rw [bW] at az;go_wp2_with fail;refine az.mono ?_;clear az;rintro d cp ⟨rfl,aF⟩;have Z:=(aq.b aF.1);have aO:=(W.trans (LF.i (own:=own1) aF));clear aF aq W;have C:=Z.a.cell 0;have bu:=iL row Z.walk bX (by rw [zAt,n];exact K) bA (by rw [zAt,n];omega);go_wp2_with fail;refine bu.mono ?_;clear bu;rintro d cq ⟨rfl,ca,aZ,b4⟩;obtain ⟨a5,bh⟩:=Z.I aZ b4;have aP:=(aO.trans bh);clear bh aZ b4 C Z aO;have C:=a5.a.cell 0;have bg:=pD a5.walk ay (by rw [ba];omega);go_wp2_with fail;refine bg.mono ?_;clear bg;rintro d bH ⟨rfl,b0,b5⟩;obtain ⟨a6,bi⟩:=a5.I b0 b5;have aQ:=(aP.trans bi);clear bi b0 b5 C a5 aP;have V:bH.cell? ⟨gl,1,none⟩=some (.pointer (some H)):=(a6.a.cell 1).trans rfl;have bw:=aBJ a6.perm K oM oM;go_wp2_with fail;refine bw.mono ?_;clear bw;rintro d aJ ⟨rfl,b6,bl⟩;obtain ⟨S,aj⟩:=a6.S (b6.mono λj _ ag=>.inl ag) bl;obtain ⟨cb,bq⟩:=eqx (eD ca bH.heap.size aJ.heap.size 1);rw [bq] at S aj;have aR:=(aQ.trans aj);clear aj b6 bl V a6 aQ bq;have V:aJ.cell? ⟨gl,1,none⟩=some (.pointer (some H)):=(S.a.cell 1).trans rfl;have bs:=aBL a S.perm oM oM oM;go_wp2_with fail;refine bs.mono ?_;clear bs;rintro d bI ⟨rfl,b7,bm⟩;obtain ⟨bo,ak⟩:=S.S (b7.mono λj _ ag=>.inl ag) bm;obtain ⟨cm,br⟩:=eqx (eD cb aJ.heap.size bI.heap.size 1);rw [br] at bo ak;have bJ:=(aR.trans ak);clear ak b7 bm V S aR br;have an:=zO (row:Int) bI bQ;rw [bP] at an;go_wp2_with fail;refine an.mono ?_;clear an;rintro d cr ⟨rfl,rfl⟩;have aa:=qP ⟨a9,by rw [I];exact bo,c8,c0,λe=>Iff.rfl,λ_ d=>c1 (by simpa using d),bJ,⟨zFF 0,by omega⟩⟩ oM oM (aNc b9 ay);rw [bF] at aa;unfold vH at aa;go_wp2_with fail;refine aa.mono ?_;clear aa;rintro d cg ⟨rfl,cc,bD,aV,bE,q⟩;have ab:(aT t a j).length=o+1:=by rw [cM _ _ (by rw [a3];exact x),a3]
 have bB:TxM cg B cc gl gk H rate bD (aG (aT t a j)) (M++ [b]) (o+1) aV bE:=by rw [bO];exact ⟨q.P.B,q.live,q.ag,q.right⟩
 have al:=aFO bB ab oM oM bv c2 (bY (Smp bE) λe=>(q.ci e).trans (bZ e));unfold vT at al;have aS:=q.lf;have aU:=q.bA;clear bB q;go_wp2_with fail;refine al.mono ?_;clear al;rintro d cs ⟨rfl,cd,ce,c9,c4,bU,R⟩;have W:=(aS.trans R);clear R aS;go_wp2_with fail;go_ret;exact ⟨rfl,cd,⟨gk,H,bD,M++ [b],aV,ce,by rw [ab];exact c9,c4,by rw [ab];exact bU,aU.1,by rw [ab];have:=aU.2;omega⟩,W⟩
def WaveS.low {w B B' own e} {c:Nat->Value} {b:Nat->List Nat} {g i} (a:WaveS w B own e c b g i) (hB:B'<=B):WaveS w B' own e c b g i:=by
 refine ⟨a.a,⟨zAk hB a.base.1,a.base.2⟩,λlv n=>?_,λd f=>⟨zAk hB (a.q d f).1,(a.q d f).2⟩⟩;obtain ⟨j,k,l,m⟩:=a.rows lv n;exact ⟨j,cG k hB,l,m⟩
def WalkE.low {w B B' own gk a b} (f:WalkE w B own gk a b) (hB:B'<=B):WalkE w B' own gk a b:=by
 obtain ⟨e,d,g,i,⟨c,m,j⟩,k,l⟩:=f;exact ⟨e,d,g,i,⟨c,m,j.low hB⟩,k,l⟩
def aKX (own:Nat->Nat) (b gk a:Nat):Nat:=if a=b then 2 else if a=gk then 2 else own a
def aFf {m k} (g) {B c w} (s:Rd w B 1 m k (c.map sv)) (hB:B<=w.heap.size) (y:k<=896) (q:∀D∈c,D < 257):
 Calls prog 93 #[.slice m k g] w λi w'=>∃gk own,i=.returned (.pointer (some ⟨gk,0,none⟩))/\w.heap.size<=gk/\WalkE w' w.heap.size own gk c c/\Below w.heap.size w w':=by
 go_enter func93,ntmps93;go_wp2_with fail;refine (aDv g s hB y q).mono ?_;rintro i w1 ⟨p,own,rfl,v,b⟩;go_wp2_with fail;refine (vD g (s.below (b.mono hB)) (zj b.size) oM q).mono ?_;rintro i l ⟨d,rfl,H,u,e⟩;have C:=v.b (kb e);have j:=b.trans (e.mono b.size);have x:=e.size;clear e;go_wp2_with fail;go_ret;have A:=C.b (w':=l.alloc (.cells #[p,d] 152)) ((Vis.refl _).alloc _);have r:=v.q;have J:=u.lt;have G:=b.size;have I:=x;have z:=A.aq (own':=aKX own d l.heap.size) (λa F E=>by
  have:=(r a oM).2;unfold aKX;rw [zBw oM,zBw oM]) (λa f=>by
  unfold aKX at f;by_cases n:a=d;subst n;exact ⟨by omega,by simp;omega⟩
  .rw [zBw n] at f;by_cases o:a=l.heap.size;subst o;exact ⟨by omega,by simp⟩
   .rw [zBw o] at f;have:=r a f;exact ⟨this.1,by simp;omega⟩)
 refine ⟨_,_,rfl,j.size,⟨p,d,kd _ _ _,?_,z,u.alloc _,?_⟩,j.alloc j.size _⟩
 .unfold aKX;rw [zBw oM,zBx rfl]
 .unfold aKX;rw [zBx rfl]
def aDx {e d} (f) {B t w} (m:Rd w B 1 e d (t.map bv)) (hB:B<=w.heap.size) (s:d<=895):
 Calls prog 57 #[.slice e d f] w λb w'=>∃gk a,IsSuf (aG t) a/\b=.returned (.pointer (some ⟨gk,0,none⟩))/\w.heap.size<=gk/\(∃own,WalkE w' w.heap.size own gk (aH (aG t) a) (aH (aG t) a))/\Below w.heap.size w w':=by
 go_enter func57,ntmps57;go_wp2_with fail;refine (qO f m hB oM).mono ?_;rintro b w1 ⟨a,q,j,n,rfl,g,c⟩;have i:=g.rd;clear g;go_wp2_with fail;refine (aFf j i nL oM (dR (eX t))).mono ?_;rintro b u ⟨gk,own,rfl,r,o,k⟩;have l:=c.trans (k.mono c.size);have p:=c.size;go_wp2_with fail;go_ret;exact ⟨gk,a,n,rfl,by omega,⟨own,o.low p⟩,l⟩
def LiveE.bz {w w' B own gl t rate f} (k:LiveE w B own gl t rate) (e:Keep f w w') (d:∀a,f a->own a=0):LiveE w' B own gl t rate:=by
 obtain ⟨gk,j,p,g,r,q,⟨l,b,m,n⟩,o⟩:=k;refine ⟨gk,j,p,g,r,q,⟨l,⟨e.d b.a λc=>?_,b.x,b.walk.m e λa c=>?_,b.perm.keep e λa c i=>?_⟩,m,n⟩,o⟩;have:=d _ c;have:=b.x;omega;have:=d a c;omega;have:=d a i;omega
def LiveE.low {w B B' own gl t rate} (d:LiveE w B own gl t rate) (hB:B'<=B):LiveE w B' own gl t rate:=by
 obtain ⟨gk,c,j,b,l,k,⟨e,a,f,g⟩,i⟩:=d;exact ⟨gk,c,j,b,l,k,⟨e,⟨a.a,a.x,a.walk.low hB,a.perm⟩,f,g⟩,i⟩
def LiveE.tp {w B own gl t rate} (b:LiveE w B own gl t rate) (j:t.length<=895):TpAt w B gl t rate:=by
 obtain ⟨gk,a,o,m,l,k,⟨c,d,e,f⟩,i,n⟩:=b;exact ⟨l,gk,a,k,c,d.g e,f,i,j⟩
open Classical in
noncomputable def ownL (own:Nat->Nat) (c b:Nat) (d e f:Value) (gl a:Nat):Nat:=if PF c b d e f a then 1 else if a=gl then 3 else own a
def PermAt.low {w B g f l m n k d c i b j e} (a:PermAt w B g f l m n k d c i b j e):PermAt w 0 g f l m n k d c i b j e:=
 ⟨a.a,cG a.u (zAp _),cG a.t (zAp _),a.V,cG a.F (zAp _),cG a.M (zAp _),a.apart,a.lt,⟨zAp _,zAp _⟩⟩
def aGv (a):(List.range a.length).map (λb=>(aF a b,aS a b))=a:=(xU a).symm
def aKt {d rate c b} (e:∃a,d[a]?=some b/\a < c) (i:b % rate=0):Smp (dE d rate c) b:=by
 obtain ⟨a,f,g⟩:=e;exact ⟨(a,b),(aKv _ _ _ _ _).2 ⟨g,by rw [zAb,f];rfl,i⟩,rfl⟩
def aKu {t c rate} (b:IsSuf (aG t) c) (q:1<=rate):sX (Smp (dE c rate (t.length+1))) rate t.length:=λl ⟨m,j,d⟩ o=>by
 obtain ⟨n,a⟩:=m;have g:=(aKv _ _ _ _ _).1 j;have e:a=l:=d;subst e;refine ⟨a+rate,aKt ?_ (by rw [Nat.add_mod_right];exact g.2.2),by omega,zAs _⟩;obtain ⟨k,i,f⟩:=b.row (p:=a+rate) (by rw [aO];omega);refine ⟨k,by rw [zAa i,f],?_⟩;have:=b.len;rw [aO] at this;omega
def aIZ {w wr:World} {v w2s u:Nat} {own:Nat->Nat} {gl gk e f rate k:Nat} {g i j:Value} {t:List UInt8} {c:List Nat} {o:List Bool} (L:t.length=k) (q:IsSuf (aG t) c) (P:1<=rate) (U:k<=895) (J:WalkE wr v own gk (aH (aG t) c) (aH (aG t) c)) (M:∀a,own a≠0->a < w2s) (T:gl=w2s) (R:w2s < u) (F:Bk wr gl 104 #[gk,e,(rate:Int),o0])
 (l:PermAt wr u e f g i j (.slice none 0 0) (k+1) (k+1) (List.range (dE c rate (k+1)).length) (dE c rate (k+1)) o []) (I:o.length=(dE c rate (k+1)).length) (Q:∀a∈o,a=true) (S:v<=w2s):∃own',LiveE wr v own' gl t rate:=by
 subst L;have y:∀a,PF e f g i j a->u<=a/\a < wr.heap.size:=λa b=>by refine ⟨l.cd b,?_⟩;rcases b with rfl | rfl | b | b | b;exact l.a.lt;exact l.V.lt;exact (l.u.lt _ b).2;exact (l.t.lt _ b).2;exact (l.F.lt _ b).2
 have p:∀a,PF e f g i j a->ownL own e f g i j gl a=1:=λa b=>by unfold ownL;rw [zBx b]
 have N:ownL own e f g i j gl gl=3:=by unfold ownL;rw [zBw (λd=>by have:=(y _ d).1;omega),zBx rfl]
 have O:∀a,a < w2s->ownL own e f g i j gl a=own a:=λa b=>by unfold ownL;rw [zBw (λd=>by have:=(y _ d).1;omega),zBw oM]
 have V:c.length=t.length+1:=by rw [q.len,aO]
 refine ⟨ownL own e f g i j gl,gk,e,0,_,c,dE c rate (t.length+1),⟨q,⟨F,N,J.aq (λa _ D=>O a (M a oM)) (λa r=>?_),⟨⟨f,g,i,j,.slice none 0 0,List.range (dE c rate (t.length+1)).length,dE c rate (t.length+1),o, [],?_,(aGv _).symm⟩,uD _ _ _,λz s=>?_⟩⟩,zFU _,zZ oM⟩,?_,aKu q P,by decide,by omega⟩;unfold ownL at r;by_cases A:PF e f g i j a;have:=y a A;exact ⟨by omega,this.2⟩;rw [zBw A] at r;by_cases C:a=gl;subst C;exact ⟨by omega,F.lt⟩;rw [zBw C] at r;exact J.q a r
 .have H:∀m,m < o.length->o[m]?=some true:=λm G=>by rw [zAa G];congr 1;exact Q _ (zBj G)
  refine ⟨l.low,p _ (.inl rfl),p _ (.inr (.inl rfl)),λa b=>p _ (.inr (.inr (.inl b))),λa b=>p _ (.inr (.inr (.inr (.inl b)))),λa b=>p _ (.inr (.inr (.inr (.inr b)))),λa b=>(by cases b),zDl,I,λm=>?_,List.nodup_nil,λm=>?_,by have:=aKw c rate (t.length+1);omega⟩
  .rw [zCj,<-I];constructor
   .intro d;exact (zAc.1 d).1
   exact H m
  .constructor
   .intro d;cases d
   .intro d;have x:=H m (zAc.1 d).1;rw [x] at d;cases d
 have x:=rA s;have D:=zZ (rs:=c) (rate:=rate) (n:=t.length+1) oM z s;have E:=q.lt (zAd D);rw [aO] at E;exact ⟨x.1,E⟩;obtain ⟨z,s,K⟩:=aIG (rate:=rate) q;exact ⟨z,s,K⟩
def vO (rate:Nat) {A0} {m0:Nat} (a7:Nat) {B:Nat} {ss t} {N:Nat} (aL:iV ss=t) (G:t.length=N) {w} (ap:Rd w B 1 A0 m0 (ss.map slV)) (au:∀a1∈ss,Rd w B 1 a1.A a1.n (a1.l.map bv)) (hB:B<=w.heap.size) (bh:m0<=1000000) (am:N<=895) (b3:1<=rate) (bj:rate<=64):
 Calls prog 22 #[(rate:Int),.slice A0 m0 a7] w λm w'=>∃gl own,m=.returned (.tuple #[.pointer (some ⟨gl,0,none⟩),o0])/\w.heap.size<=gl/\LiveE w' w.heap.size own gl t rate/\Below w.heap.size w w':=by
 have aM:=G;have ag:=oX a7 aL G ap au hB oM oM;have bl:¬((rate:Int) < 1):=oM;have bm:¬((rate:Int) > 64):=oM;clear ap au;go_enter func22,ntmps22;go_wp2_with fail;refine ag.mono ?_;clear ag;rintro m w1 ⟨b9,a8,rfl,ak,y⟩;have aN:=y;have S:=ak.rd;clear ak aN;go_wp2_with fail;refine (aDx a8 S nL am).mono ?_;rintro m e ⟨gk,c,D,rfl,aV,E,s⟩;have ac:=S.below s;have H:=y.trans (s.mono y.size);obtain ⟨bo,E⟩:=E;have aZ:=E.q;have az:=(E.low y.size);have ay:=(ac.mono s.size);clear E ac s S y aV;go_wp2_with fail;obtain ⟨i,O⟩:=eqx (N+1);have aY:(N:Int)+1=i:=oM;rw [aY];have x:=kd e 104 #[gk,.pointer none,(rate:Int),o0];have J:Below e.heap.size e (e.alloc (.cells #[gk,.pointer none,(rate:Int),o0] 104)):=bR.alloc nL _;obtain ⟨gl,v⟩:=eqx e.heap.size;rw [v] at x;rw [v];generalize e.alloc (.cells #[gk,.pointer none,(rate:Int),o0] 104)=w3 at x J⊢;refine (aFB i w3 oM).mono ?_;rintro m Q ⟨r,aa,rfl,b0,af⟩;have K:=x.below af x.lt;have aE:Q.cell? ⟨gl,1,none⟩=some (.pointer none):=(K.cell 1).trans rfl;have aG:=K.frozen 1;go_wp2_with fail;have ah:=(ke (λg=>g=gl) Q).setCell (p:=⟨gl,1,none⟩) (.inl rfl) (.pointer (some r));have L:=K.set 1 (.pointer (some r));have X:=b0.keep ah (λg t aD d k=>by
  subst d;have:=(aU k K).1;subst this;decide)
 have u:Below e.heap.size e (Q.setCell ⟨gl,1,none⟩ (.pointer (some r))):=(J.trans (af.mono J.size)).setCell (by rw [v];exact zAs _) _;have bf:=v;have ax:=(show e.heap.size < w3.heap.size by have:=x.lt;omega);have bc:e.heap.size<=w3.heap.size:=J.size;clear aE aG;generalize Q.setCell ⟨gl,1,none⟩ (.pointer (some r))=w5 at L X u⊢;have Y:=qN a8 (ay.below u) u.size oM;rw [O] at Y;clear ah;refine Y.mono ?_;clear Y;rintro m b8 ⟨b4,a5,a9,av,rfl,al,I⟩;obtain rfl:c=b4:=D.unique av;have aj:c.length=i:=by rw [D.len,aO,G,O]
 have a:LvInv e w3.heap.size w5.heap.size gl gk r aa i rate a5 a9 c 0 (.slice none 0 0) (.slice none 0 0) (.slice none 0 0) [] b8:=
  ⟨X.below I,rfl,λaB _ k=>(by cases k),al.own,L.below I L.lt,u.trans (I.mono u.size)⟩
 have f:=a;clear a al I av L X u;go_wp2_with fail;go_loopw [8,9,36] (λ_ _ a0 wr=>∃b:Nat,b<=i/\a0=.int .i64 b/\∃a2 a3 a4 F,LvInv e w3.heap.size w5.heap.size gl gk r aa i rate a5 a9 c b a2 a3 a4 F wr/\∀g∈F,g=true) (λ_ _ a0 _=>i -(intOf a0).toNat)
 case atStart=>exact ⟨0,by omega,rfl,_,_,_,_,f,λg k=>by cases k⟩
 case round=>
  clear f;obtain ⟨b,bg,rfl,a2,a3,a4,F,a,Z⟩:=hrel;by_cases M:b < i
  .have W:b < c.length:=(by rw [aj];exact M);obtain ⟨j,n⟩:∃j,c[b]?=some j:=⟨_,zAa W⟩;have b2:j < i:=(by have:=D.lt (zAd n);rw [aO,G,O] at this;exact this);have aT:c.getD b 0=j:=(by rw [zAb,n];rfl);have aq:=Rd.s a.row;obtain ⟨g,bn,bp,aJ,aP,P,aQ⟩:=aq.get M;rw [zAf,n] at P;injection P with P;subst P aJ;unfold sv at aQ;have ba:=a.a.cell 1;have aX:((j:Int)).tmod (rate:Int)=((j % rate:Nat):Int):=(by rw [zDA oM];simp);have aW:((j:Int))%(rate:Int)=(j % rate:Nat):=zs;obtain ⟨aw,an⟩:=eqx (j % rate);rw [an] at aX aW;have o:=aGm c rate b;rw [aT,an] at o;have f:=a;clear a aq W;by_cases ao:aw=0
   .subst ao;rw [zBx rfl] at o;go_wp2_with fail;have ad:=aFD f.perm (aEx (uD c rate b)) (λq U=>(rA (aEy (by simpa using U))).1) (λq U m=>by
     have ab:=rA (aEy (C:=dE c rate b) (by simpa using U));have aH:aS (dE c rate b) q=c.getD (aF (dE c rate b) q) 0:=ab.2;have bb:aF (dE c rate b) q < b:=ab.1;have W:b < c.length:=(by rw [aj];exact M);have aI:c[aF (dE c rate b) q]?=c[b]?:=(by rw [n,<-m,aH,zAb,zAa (show aF (dE c rate b) q < c.length by omega)];rfl);have:=(List.getElem?_inj (show aF (dE c rate b) q < c.length by omega) D.nodup).1 aI
     omega) M b2 f.len (by
      have:(dE c rate b).length<=b:=(by unfold dE;rw [zBc];exact zAk (zCw _ _) zs);omega) (by
      have:(dE c rate b).length<=b:=(by unfold dE;rw [zBc];exact zAk (zCw _ _) zs);simp;omega) (zk f.perm.a.lt f.perm.lo.1)
    refine ad.mono ?_;clear ad;rintro m bq ⟨rfl,V,b5,b6,b7,b1,aR,bd,be⟩;go_wp2_with fail;go_roundw
    case rel=>
     have a:=f;refine ⟨b+1,by omega,by go_num,b5,b6,b7,F++ [true],⟨?_,?_,?_,?_,?_,?_⟩,λg k=>by rcases zCp.1 k with R | R;exact Z g R;exact zDa.1 R⟩;rw [o];simpa [zDx] using b1
     .rw [o];simp [a.len]
     exact a.dj.cs aR (λaB T=>by injection T with T;subst T;exact aP);refine aC a.row λa6 aD ae z=>V.d z (λd=>?_);rcases d with d | d | d | d | d;subst d;exact Bk.ne z a.perm.a dC rfl;subst d;exact Bk.ne z a.perm.V dC rfl;exact bC a.perm.u z dC d.symm;have s:g=a6:=(by simpa [Value.ownBlock] using ae);subst s;exact a.dj _ rfl d;exact bC a.perm.F z dC d.symm;refine V.d a.a (λd=>?_);have:=a.perm.cd d;have:=x.lt;omega;exact a.below.trans (V.e a.below.size (λa6 ae d=>by have:=a.perm.cd d;omega))
    case measure=>exact zr
   .rw [zBw ao] at o;have bi:((aw:Int)==0)=false:=zt;go_wp2_with fail;go_roundw
    case rel=>have a:=f;exact ⟨b+1,by omega,by go_num,a2,a3,a4,F,⟨by rw [o];exact a.perm,by rw [o];exact a.len,a.dj,a.row,a.a,a.below⟩,Z⟩
    case measure=>exact zr
  .obtain rfl:i=b:=oM;have f:=a;clear a;go_wp2_with fail;go_ret2;have a:=f;have n:=a.perm;have ai:=a.len;rw [<-O] at n ai;obtain ⟨own',aK⟩:=aIZ (w:=w) (w2s:=e.heap.size) aM D b3 am (az.b (kb a.below)) (λg k=>(aZ g k).2) v.symm ax a.a n ai Z H.size;exact ⟨gl,own',rfl,by have:=H.size;have:=v;omega,aK,H.trans (a.below.mono H.size)⟩
end
section
open Go.RowKit
def uV (aA rate a:Nat):Array Value:=#[.int .i64 aA,.int .i64 rate,.int .i64 a]
def xS {P:Program} {fn:Func} {a p b:Tmp} {ty:TypeId} (i:fn.results=#[.tmp a,.cell p ty,.tmp b]) (c:Array Value) (w:World) (e:Nat) (t:TypeId) (d:Array Value) (g:Nat×Nat) (f:TypeDesc)
 (m:c.getD p undef=.pointer (some e)) (k:w.heap[e]?=some (.cells d t g))
 (o:P.underlying ty=some f) (j:(match f with | .struct _ | .array _ _=>true | _=>false)=true) (l:(P.info? ty).map (·.size)=some d.size):
 (results fn c).run P w=.ok (.tuple #[c.getD a undef,.agg d,c.getD b undef]) w:=by
 have n:c[p]?.getD undef=.pointer (some e):=by simpa using m
 simp [results,i,n,asAddr,run_loadVar_row w e t ty d g f k o j l]
def aBj (w:World) (t:List UInt8) (rate aA:Nat) (a:Ending) (w':World):Prop:=
 ∃gl,a=.returned (.tuple #[.pointer (some ⟨gl,0,none⟩),.agg (uV aA rate t.length),o0])/\(∃own,LiveE w' w.heap.size own gl t rate)/\VB w.heap.size w w'
def aNs {w b t d e f} (c:Bk w b t e) (a:Bk w b d f):t=d:=by
 unfold Bk at c a;rw [c] at a;injection a with a;injection a with _ ht
def aLm {w w' c e gl rate aA d t} (m:c.getD 3 undef=.pointer (some e)) (j:c.getD 2 undef=.pointer (some ⟨gl,0,none⟩)) (k:c.getD 4 undef=.int .i64 0) (l:Bk w' e 115 (uV aA rate d)) (ht:∃own,LiveE w' w.heap.size own gl t rate) (n:VB w.heap.size w w'):
 bodyPost prog f73 (λi w'=>∃gl,i=.returned (.tuple #[.pointer (some ⟨gl,0,none⟩),.agg (uV aA rate d),o0])/\(∃own,LiveE w' w.heap.size own gl t rate)/\VB w.heap.size w w') .ret ⟨c, []⟩ w':=by
 have g:=xS (P:=prog) (fn:=f73) (a:=2) (p:=3) (b:=4) (ty:=115) rfl c w' e 115 (uV aA rate d) (0,0) _ m l underlying115 rfl kR;rw [j,k] at g;exact bodyPost_ret g rfl ⟨gl,rfl,ht,n⟩
def aDJ (f a) {F} (aA) {rate t j} (w) (U:IsSuf (aG t) j) (bW:t.length<=895) (c2:1<=rate) (c3:rate<=64) (cH:t.length<=aA) (cI:aA<=2147483648) (T:Rd w F 1 f (fC (aH (aG t) j) j aA rate t.length).length ((fC (aH (aG t) j) j aA rate t.length).map bv)) (hB:F<=w.heap.size) (aV:(fC (aH (aG t) j) j aA rate t.length).length<=a) (a0:a<=maxLen):
 Calls prog 73 #[.slice f (fC (aH (aG t) j) j aA rate t.length).length a] w (aBj w t rate aA):=by
 obtain ⟨u,K⟩:=eqx (aH (aG t) j);rw [K] at T aV⊢;have bS:=dR (rs:=j) (eX t);have a1:u.length=t.length+1:=by rw [<-K,bY,U.len,aO]
 rw [K] at bS;obtain ⟨d,G⟩:=eqx t.length;unfold aBj;rw [G] at T aV a1 cH bW⊢;obtain ⟨x,bL⟩:=eqx (qI u j aA rate d);obtain ⟨cd,ce,cf,cg,i,y,a2⟩:=SnAt.of u j aA rate d;rw [bL] at y a2;have bl:fC u j aA rate d=x++nD (lP x):=by unfold fC;rw [bL]
 have c6:(fC u j aA rate d).length=i+4:=by rw [bl,zAi,a2,lM]
 rw [c6] at T aV⊢;have dg:4<=i:=by have:=y.h1;have:=y.h2;have:=y.h3;have:=y.h4;have:=y.h5;omega
 have d9:¬(i+4 < 8):=oM;have dh:i<=100000:=by have a9:=y.h1;have aN:=y.h2;have aa:=y.h3;have cx:=y.h4;have cy:=y.h5;have cu:=bX aA;have d0:=bX rate;have d1:=bX d;have d2:=bX (gS u).length;have d3:=bX (yO j rate d).length;have d4:=oK u;have cv:=pM j rate (d / rate+1);have d5:d / rate<=d:=zDZ _ _;rw [<-zB] at cv;rw [kW] at cx cy;omega
 have bh:=(T.aj (k:=i) (cap:=a) oM);have bM:=vA x;have cc:((fC u j aA rate d).map bv).take (i*1)=x.map bv:=by rw [<-zDw,bl,zBl,List.take_left' a2]
 rw [cc] at bh;have b9:=aMW (n:=(lP x)) x [] bM;rw [zEa,<-bl,a2] at b9;have aW:∀(f W:Option Addr) (z a aL:Nat) (w:World),Rd w w.heap.size 1 f z (x.map bv)->z<=1099511627776->Rd w w.heap.size 1 W 1 [.slice f z a]->Calls prog 81 #[.slice W 1 aL] w λr w'=>r=.returned (.int .u32 (lP x:Nat))/\Below w.heap.size w w':=λf W z a aL w a9 aN aa=>xL (A:=f) (AP:=W) (n:=z) (c:=a) (b:=x) (w:=w) aL a9 aN aa;obtain ⟨cY,c7⟩:=eqx (lP x);rw [c7] at b9 aW;have bG:=U;clear U cc bM c7;have dm:=jH (P:=prog) 22 5 1 underlying22 (λw=>by kernel_rfl) f (i+4) a i oM;have cu:IntKind.i64.wrap ((i+4:Nat) - 4)=(i:Int):=zu
 go_enter func73,ntmps73;go_wp2_with fail;obtain ⟨e,ai⟩:=eqx w.heap.size;have aj:Bk (w.alloc (.cells #[o0,o0,o0] 115)) e 115 #[o0,o0,o0]:=ai ▸ kd _ _ _;have Q:Below w.heap.size w (w.alloc (.cells #[o0,o0,o0] 115)):=bR.alloc nL _;have bj:(w.alloc (.cells #[o0,o0,o0] 115)).heap.size=e+1:=by simp [ai]
 rw [ai] at Q hB⊢;generalize w.alloc (.cells #[o0,o0,o0] 115)=W0 at aj Q bj⊢;refine (aPi (A:=f) (m:=(i+4)) (l:=(fC u j aA rate d)) (at_:=(i:Int)) (B:=F) (w:=W0) (n:=cY) (k:=0) a b9 (T.below (Q.mono hB)) zx).mono ?_;rintro r w1 ⟨rfl,rfl⟩;go_wp2_with fail;have bJ:=bh.below (Q.mono hB);refine (aW (dH f a 0 1) _ i a _ _ (((bJ.mono (by omega:F<=W0.heap.size)).alloc nL _).mono zs) oM (Rd.bt _ _ 1 1 _ _ rfl bj.symm)).mono ?_;rintro r au ⟨rfl,bK⟩;have ac:=((kg W0.heap.size W0).alloc nL (.cells #[.slice (dH f a 0 1) i a] 22)).trans (bK.mono zs);have cN:=ac.size;have bq:=(Q.trans (ac.mono oM));have bt:=(aj.below ac aj.lt);clear bK ac Q aj bJ;go_wp2_with fail;have O:∀I,Below e w I->Rd I F 1 (dH f a 0 1) i (x.map bv):=λI cw=>bh.below (cw.mono hB);obtain ⟨o,b0⟩:=eqx au.heap.size;have an:Bk (au.alloc (.cells #[.slice (dH f a 0 1) i a,(4:Int),false] 168)) o 168 (aKI (dH f a 0 1) i a 4):=b0 ▸ kd _ _ _;have ag:=bq.alloc oM (.cells #[.slice (dH f a 0 1) i a,(4:Int),false] 168);have b2:=bt.alloc (.cells #[.slice (dH f a 0 1) i a,(4:Int),false] 168);have bm:o < (au.alloc (.cells #[.slice (dH f a 0 1) i a,(4:Int),false] 168)).heap.size:=an.lt;have df:e < o:=oM;rw [b0];generalize au.alloc (.cells #[.slice (dH f a 0 1) i a,(4:Int),false] 168)=W2 at an ag b2 bm⊢;have R:∀(I bo:World),Below e w I->o < I.heap.size->Keep (λs=>s=o) I bo->Below e w bo:=λI bo a9 aN aa=>a9.trans (aa.e oM (λs ab r=>by omega));clear b0 bq bt aW cN bj;have S:i<=a:=oM;refine (oV (gr:=o) (A:=(dH f a 0 1)) (n:=i) (c:=a) (B:=F) (at_:=4) (to_:=cd) (v:=aA) (l:=x) (w:=W2) 2147483648 an (O _ ag) S a0 (y.n1 oM) oM oM).mono ?_;rintro r cj ⟨rfl,bd,b4⟩;have aD:=(R _ _ ag bm b4);have bu:=(b4.d b2 oM);have c8:o < cj.heap.size:=bd.lt;clear b4 an ag b2 bm;go_wp2_with fail;refine (oV (gr:=o) (A:=(dH f a 0 1)) (n:=i) (c:=a) (B:=F) (at_:=cd) (to_:=ce) (v:=rate) (l:=x) (w:=cj) 64 bd (O _ aD) S a0 (y.n2 oM) oM oM).mono ?_;rintro r ck ⟨rfl,be,b5⟩;have aE:=(R _ _ aD c8 b5);have bw:=(b5.d bu oM);have c9:o < ck.heap.size:=be.lt;clear b5 bd aD bu c8;go_wp2_with fail;refine (oV (gr:=o) (A:=(dH f a 0 1)) (n:=i) (c:=a) (B:=F) (at_:=ce) (to_:=cf) (v:=d) (l:=x) (w:=ck) 2147483648 be (O _ aE) S a0 (y.n3 oM) oM oM).mono ?_;rintro r av ⟨rfl,bf,b6⟩;have br:=(R _ _ aE c9 b6);have bx:=(b6.d bw oM);have cQ:o < av.heap.size:=bf.lt;clear b6 be aE bw c9;go_wp2_with fail;obtain ⟨gH,aY⟩:=eqx av.heap.size;have aP:Bk (av.alloc (.cells #[(aA:Int),(rate:Int),(d:Int)] 115)) gH 115 (uV aA rate d):=aY ▸ kd _ _ _;have ah:=br.alloc oM (.cells #[(aA:Int),(rate:Int),(d:Int)] 115);have b3:=bx.alloc (.cells #[(aA:Int),(rate:Int),(d:Int)] 115);have M:=bf.alloc (.cells #[(aA:Int),(rate:Int),(d:Int)] 115);have dc:o < gH:=oM;rw [aY];generalize av.alloc (.cells #[(aA:Int),(rate:Int),(d:Int)] 115)=W5 at aP ah b3 M⊢;have ca:o < W5.heap.size:=M.lt;have bF:=M;clear aY M br bx bf cQ;obtain ⟨aq,bO⟩:=eqx ((gS u).length);obtain ⟨cR,bP⟩:=eqx ((yO j rate d).length);have cD:=oK u;have cF:=pM j rate (d / rate+1);have cE:=aMI j rate (d / rate+1);have da:d / rate<=d:=zDZ _ _;rw [<-zB,bP] at cF cE;rw [bO,a1] at cD;obtain ⟨a4,ba,c0,bb,cJ⟩:=y.f1 oM;obtain ⟨cU,bc,cK,c1,cL⟩:=y.f2 oM;rw [bO] at ba c0 bb;rw [bP] at bc cK c1;rw [a2] at cJ cL;refine (vI (gr:=o) (A:=(dH f a 0 1)) (n:=i) (c:=a) (B:=F) (at_:=cf) (q:=a4) (k:=aq) (l:=x) (w:=W5) cg bF (O _ ah) S a0 oM ba c0 oM).mono ?_;rintro r cl ⟨rfl,bg,al⟩;have aF:=(R _ _ ah ca al);have bz:=(al.d b3 oM);have bp:=(al.d aP oM);have cb:o < cl.heap.size:=bg.lt;clear al bF ah b3 aP ca;go_wp2_with fail;refine (vI (gr:=o) (A:=(dH f a 0 1)) (n:=i) (c:=a) (B:=F) (at_:=cg) (q:=cU) (k:=cR) (l:=x) (w:=cl) i bg (O _ aF) S a0 oM bc oM oM).mono ?_;rintro r V ⟨rfl,M,am⟩;have cs:V.cell? ⟨o,2,none⟩=some (.bool false):=M.cell 2;have X:=(R _ _ aF cb am);have aJ:=(am.d bz oM);have J:=am.d bp oM;have a7:V.cell? gH=some (.int .i64 aA):=J.cell 0;have a8:V.cell? ⟨gH,1,none⟩=some (.int .i64 rate):=J.cell 1;have bH:V.cell? ⟨gH,2,none⟩=some (.int .i64 d):=J.cell 2;clear M am bg aF bz bp cb;have ch:¬((rate:Int) < 1):=oM;have cV:=zBy ch;have ci:¬((d:Int) > aA):=oM;have cW:=zBy ci;have cX:=zn (aA < d);go_wp2_with fail;have bi:=((O _ X).cut (k:=a4) (cap:=a) oM S).cut_hi (k:=aq) oM;have bN:((x.map bv).drop (a4*1)).take (aq*1)=(gS u).map bv:=by rw [zBl,zBl,<-zEb,<-zDw,bb]
 rw [bN] at bi;have aZ:=aDd (l:=(jC u)) (aEh bS) (by rw [qY,a1];omega) ((d:Int)+1) (by rw [qY,a1];omega) [];rw [zEa,zBx rfl] at aZ;refine (aJG (A:=(dH (dH f a 0 1) a a4 1)) (m:=aq) (c:=(a - a4)) (B:=F) (b:=(gS u)) (aA:=((d:Int)+1)) (w:=V) (l:=(jC u)) (k:=0) (d+1) aZ (by rw [qY,a1]) bi (zj X.size) oM oM oM oM).mono ?_;rintro r cm ⟨co,cr,rfl,bU,ad⟩;have b7:=bU.rd;rw [<-aNN] at b7;have aU:=aA9 (B:=cm.heap.size) (t:=t) (rs:=j) (w:=cm) co cr bG (by rw [K,G];exact b7) nL (by rw [G];omega);rw [G] at aU;have cB:gH < V.heap.size:=J.lt;have ay:=(X.trans (ad.mono (zj X.size)));have aI:=(aJ.below ad aJ.lt);have ax:=(J.below ad J.lt);clear bU ad b7 aZ bN bi a7 a8 bH cs ch cV ci cW cX ba bc bb c1 J aJ X O R y cB;go_wp2_with fail;refine aU.mono ?_;clear aU;rintro r E ⟨aw,aK,rfl,bV,ae⟩;have Y:=ax.below ae ax.lt;have az:=(ay.trans (ae.mono (zj ay.size)));have a6:=(aI.below ae aI.lt);have bE:=bV.rd;have a8:E.cell? ⟨gH,1,none⟩=some (.int .i64 rate):=Y.cell 1;clear ae bV ay aI ax;go_wp2_with fail
 have bZ:=vO (A0:=(some ⟨E.heap.size,0,none⟩)) (m0:=1) (B:=(E.heap.size+1)) (ss:=[(⟨aw,d,aK,t⟩:Sl)]) (t:=t) (N:=d) (w:=(E.alloc (.cells #[.slice aw d aK] 22))) rate 1 (by simp [iV]) G ((Rd.made E _ 1 1 _ rfl).mono zs) (by
  intro dp U;simp at U;subst U;exact (bE.alloc nL _).mono oM) zs oM bW c2 c3
 refine bZ.mono ?_;clear bZ;rintro r ar ⟨gl,cS,rfl,cC,L,aT⟩;have bD:=L;obtain ⟨gk,bI,dn,cZ,bn,cT,a3,_,_⟩:=L;have c5:=a3.aa;have c4:=a3.right;have cM:=c5.unique bG;subst cM;have L:=a3.live.g a3.ag;rw [K,G] at L;have af:=((kg E.heap.size E).alloc nL (.cells #[.slice aw d aK] 22)).trans (aT.mono zs);have aQ:=Y.below af Y.lt;have aB:=(az.trans (af.mono (zj az.size)));have bs:=(a6.below af a6.lt);have a7:ar.cell? gH=some (.int .i64 aA):=aQ.cell 0;have de:gH < E.heap.size:=Y.lt;have dd:e < E.heap.size:=a6.lt;have bA:=bD;rw [sZ0] at L;have cO:E.heap.size+1<=ar.heap.size:=by have:=aT.size;simpa using this
 have ao:=vF (Bw:=(E.heap.size+1)) (gl:=gl) (gk:=gk) (gp:=bI) (rate:=rate) (aA:=aA) (t:=t) (rs:=bn) (C:=cT) (w:=ar) (by rw [K,G];exact L) c4 c5 (by rw [G];omega) c2 c3 (by rw [G];omega) cI;unfold gJ at ao;rw [K,G,c6] at ao;have db:=aB.size;clear L a3 c4 bD aT af a8 az a6 Y bE cC;go_wp2_with fail;refine ao.mono ?_;clear ao;rintro r a5 ⟨cn,cq,rfl,bT,ap⟩;have ak:Below (E.heap.size+1) ar a5:=ap.2.e cO (λs ab r=>by omega);have di:=ap.1.size;have aR:Bk a5 gH 115 (uV aA rate d):=aQ.below ak oM;have b1:Bk a5 e 115 #[o0,o0,o0]:=bs.below ak oM;have aC:=(aB.trans (ak.mono oM));have aX:=aBt (A:=cn) (A2:=f) (n:=(i+4)) (n2:=(i+4)) (B:=a5.heap.size) (l:=(fC u bn aA rate d)) (l2:=(fC u bn aA rate d)) (w:=a5) cq a bT.rd ((T.below (aC.mono hB)).mono oM);rw [beq_self_eq_true] at aX;have bB:=(bA.b ap.1);clear bT ap ak aB bs aQ a7 bA;go_wp2_with fail;refine aX.mono ?_;clear aX;rintro r D ⟨rfl,Z⟩;have aS:=aR.below Z aR.lt;have H:=b1.below Z b1.lt;have cp:=(aC.trans (Z.mono oM));have bC:=(bB.b (kb Z));clear Z aC aR b1 bB;go_wp2_with fail;have a7:D.cell? gH=some (.int .i64 aA):=aS.cell 0;have a8:D.cell? ⟨gH,1,none⟩=some (.int .i64 rate):=aS.cell 1;have bH:D.cell? ⟨gH,2,none⟩=some (.int .i64 d):=aS.cell 2;have dj:D.cell? e=some (.int .i64 0):=H.cell 0;have dk:D.cell? ⟨e,1,none⟩=some (.int .i64 0):=H.cell 1;have dl:D.cell? ⟨e,2,none⟩=some (.int .i64 0):=H.cell 2;have d6:=H.frozen 0;have d7:=H.frozen 1;have d8:=H.frozen 2;have cA:Bk ((((D.setCell e (.int .i64 aA)).setCell ⟨e,1,none⟩ (.int .i64 rate)).setCell ⟨e,2,none⟩ (.int .i64 d)).drew) e 115 (uV aA rate d):=by have:=(((H.set 0 (.int .i64 aA)).set 1 (.int .i64 rate)).set 2 (.int .i64 d)).drew;simpa [uV] using this
 have cz:Below e w ((((D.setCell e (.int .i64 aA)).setCell ⟨e,1,none⟩ (.int .i64 rate)).setCell ⟨e,2,none⟩ (.int .i64 d)).drew):=
  (((cp.setCell (p:=e) nL _).setCell (p:=⟨e,1,none⟩) nL _).setCell (p:=⟨e,2,none⟩) nL _).drew
 have cP:∀s t aM,t≠115->Bk D s t aM->Bk ((((D.setCell e (.int .i64 aA)).setCell ⟨e,1,none⟩ (.int .i64 rate)).setCell ⟨e,2,none⟩ (.int .i64 d)).drew) s t aM:=λs t aM ht ab=>by
  have b8:s≠e:=λr=>by subst r;exact ht (aNs ab H)
  exact (((ab.m (p:=e) b8 _).m (p:=⟨e,1,none⟩) b8 _).m (p:=⟨e,2,none⟩) b8 _).drew
 have bQ:Keep (λs=>s=e) D ((((D.setCell e (.int .i64 aA)).setCell ⟨e,1,none⟩ (.int .i64 rate)).setCell ⟨e,2,none⟩ (.int .i64 d)).drew):=
  (((((ke (λs=>s=e) D).setCell (p:=e) (.inl rfl) _).setCell (p:=⟨e,1,none⟩) (.inl rfl) _).setCell (p:=⟨e,2,none⟩) (.inl rfl) _)).drew
 have cG:=(bC.bz bQ λs r=>by
  have ct:s=e:=r;subst ct;by_cases a:cS s=0;exact a
  .have:=(bC.q s a).1;rw [sZ0] at this;omega).low (B':=e) (by rw [sZ0];omega)
 clear cP bQ
 go_region
 go_wp2_with fail;subst ai;refine aLm rfl rfl rfl cA ⟨_,cG⟩ (kc cz)
end
section
open Go.RowKit
open Classical in
def VisF.split {d w w'} (f:VisF d w w'):∃w1,Keep d w w1/\Vis w1 w':=by
 let c:Array Obj:=Array.ofFn (n:=w'.heap.size) λk=>if g:k.val < w.heap.size/\¬d k.val then w.heap[k.val]'g.1 else w'.heap[k.val]
 have x:c.size=w'.heap.size:=Array.size_ofFn;have q:∀a,a < w'.heap.size->c[a]?=if a < w.heap.size/\¬d a then w.heap[a]? else w'.heap[a]?:=λa g=>by
  rw [zAq oM,Array.getElem_ofFn];by_cases b:a < w.heap.size/\¬d a
  .rw [zBx b,dif_pos b,zAq b.1]
  .rw [zBw b,dif_neg b,zAq g]
 refine ⟨{ w' with heap:=c },⟨f.os,f.tape,f.output,?_,λj r v=>?_⟩,⟨rfl,rfl,rfl,?_,λa g _=>?_⟩⟩;show w.heap.size<=c.size;rw [x];exact f.size
 .show c[j]?=w.heap[j]?;rw [q j (zAl r f.size),zBx ⟨r,v⟩]
 show c.size<=w'.heap.size;omega;have u:a < w'.heap.size:=(by have:a < c.size:=g;omega);have i:({ w' with heap:=c }:World).heap[a]?=if a < w.heap.size/\¬d a then w.heap[a]? else w'.heap[a]?:=q a u;by_cases b:a < w.heap.size/\¬d a;rw [zBx b] at i;have p:∀t e,Bk w a t e->Bk { w' with heap:=c } a t e:=λt e j=>i.trans j;rcases f.block a b.1 b.2 with s |⟨e,o,l,m⟩|⟨e,o,l,m⟩;exact .inl (by rw [i];exact s);exact .inr (.inl ⟨e,o,p _ _ l,m⟩);exact .inr (.inr ⟨e,o,p _ _ l,m⟩);rw [zBw b] at i;exact .inl i.symm
def LiveE.cA {w w' B own gl t rate a} (c:LiveE w B own gl t rate) (g:VisF a w w') (f:∀b,a b->own b=0):LiveE w' B own gl t rate:=by
 obtain ⟨w1,d,e⟩:=g.split;exact (c.bz d f).b e
end
section
open Go.RowKit
structure StAt (w:World) (B:Nat) (own:Nat->Nat) (gs gl aA rate:Nat) (t:List UInt8):Prop where
 a:Bk w gs 58 #[gl,(aA:Int)]
 low:B<=gs
 x:own gs=0
 live:LiveE w B own gl t rate
 n127:t.length<=895
 len:t.length<=aA
 max:aA<=2147483648
 r1:1<=rate
 r2:rate<=64
section
variable {w w' : World} {B gs gl aA rate : Nat} {own own' : Nat -> Nat} {t : List UInt8}
def StAt.tp (a:StAt w B own gs gl aA rate t):TpAt w B gl t rate:=a.live.tp a.n127
def StAt.G (a:StAt w B own gs gl aA rate t) (b:Vis w w'):StAt w' B own gs gl aA rate t:=
 ⟨b.d a.a dC dC,a.low,a.x,a.live.b b,a.n127,a.len,a.max,a.r1,a.r2⟩
def StAt.size (a:StAt w B own gs gl aA rate t):B<=w.heap.size:=by have:=a.low;have:=a.a.lt;omega
def StAt.fresh (b:StAt w B own gs gl aA rate t) {a} (d:w.heap.size<=a):own a=0:=zFi λc=>by have:=(b.live.q a oM).2;omega
def StAt.cb {a} (c:StAt w B own gs gl aA rate t) (d:t.length=a):Calls prog 24 #[gl] w λb w'=>b=.returned (.int .i64 a)/\w=w':=by
 obtain ⟨m,gk,g,l,f,e,j,k,i⟩:=c.tp;exact cD (n:=a) e.ai (by rw [bY,f.len,aO,d]) oM
end
structure LFS (B gs:Nat) (w w':World) (own own':Nat->Nat):Prop where
 H:∀b,b < w.heap.size->own' b≠0->own b≠0
 b:VisF (λb=>own b≠0∨b=gs) w w'
 keep:Keep (λb=>B<=b) w w'
section
variable {B gs : Nat} {w w1 w' : World} {own own1 own' : Nat -> Nat}
def LFS.refl (B gs w own):LFS B gs w w own own:=⟨λ_ _ a=>a,VisF.C (Vis.refl w),ke _ _⟩
def LFS.size (a:LFS B gs w w' own own'):w.heap.size<=w'.heap.size:=a.keep.size
def LFS.trans (b:LFS B gs w w1 own own1) (e:LFS B gs w1 w' own1 own'):LFS B gs w w' own own':=by
 have f:=b.keep.size;refine ⟨λc d a=>b.H c d (e.H c oM a),b.b.trans' e.b λc d a=>?_,b.keep.trans e.keep⟩;rcases a with a | a;exact .inl (b.H c d a);exact .inr a
def LFS.cr (gs) (b:LF B w w' own own'):LFS B gs w w' own own':=⟨λc d a=>by rw [<-b.H c d];exact a,b.b.mono λc _ a=>.inl a,b.keep⟩
def LFS.i (gs own) (a:VB B w w'):LFS B gs w w' own own:=⟨λ_ _ b=>b,VisF.C a.1,a.2⟩
def LFS.j (B gs own) (a:Below w.heap.size w w'):LFS B gs w w' own own:=LFS.i gs own (kc a)
def LFS.below (c:LFS B gs w w' own own') (hB:B<=w.heap.size):Below B w w':=c.keep.e hB λa e b=>by have d:B<=a:=b;omega
def LFS.zero (e:LFS B gs w w' own own') {a} (d:a < w.heap.size) (c:own a=0):own' a=0:=by
 by_cases b:own' a=0;exact b;exact absurd c (e.H a d b)
def LFS.d (j:LFS B gs w w' own own') {a t c} (d:Bk w a t c) (e:own a=0) (i:a≠gs) (f:t≠233) (g:t≠191):Bk w' a t c:=
 j.b.d d f g λb=>b.elim (λb=>b e) i
structure Ap (own:Nat->Nat) (gs b:Nat):Prop where
 x:own b=0
 ne:b≠gs
def Ap.step {a} (b:Ap own gs a) (d:LFS B gs w w' own own') (c:a < w.heap.size):Ap own' gs a:=⟨d.zero c b.x,b.ne⟩
def MadeZ (w:World) (own:Nat->Nat) (gs:Nat) (d:TypeId) (b:Option Addr) (e c:Nat) (f:List Value):Prop:=Made w 0 d 1 b e c f/\∀a,b=some a->a.block < w.heap.size/\Ap own gs a.block
def MadeZ.step {a c e f i} (b:MadeZ w own gs a c e f i) (g:LFS B gs w w' own own') (n:a≠233) (o:a≠191):MadeZ w' own' gs a c e f i:=by
 have j:w'.ownsRow 0 a 1 (.slice c e f) e i:=aC b.1.own λl r k q=>by
  rcases c with _ | d
  .cases k
  have m:d.block=l:=(by simpa [Value.ownBlock] using k);have:=(b.2 d rfl).2;rw [m] at this;exact g.d q this.x this.ne n o
 refine ⟨⟨j,Rd.s j,b.1.cap,b.1.max⟩,λd p=>?_⟩;have:=b.2 d p;exact ⟨zAl this.1 g.size,this.2.step g this.1⟩
def ArgZ (w:World) (B:Nat) (own:Nat->Nat) (gs:Nat) (b:Option Addr) (c:Nat) (d:List UInt8):Prop:=
 Rd w w.heap.size 1 b c (d.map bv)/\(0 < c->∀a,b=some a->a.block < B∨(Ap own gs a.block/\∃e f,w.heap[a.block]?=some (.cells e 5 f)))
def VisF.same {d b e t j} (n:VisF d w w') (c:w.heap[b]?=some (.cells e t j)) (m:¬d b) (k:t≠233) (l:t≠191):w'.heap[b]?=w.heap[b]?:=by
 rcases n.block b (lt_of_block c) m with g |⟨f,o,a,i⟩|⟨f,o,a,i⟩;exact g;exfalso;unfold Bk at a;rw [c] at a;injection a with a;injection a with _ a;exact k a;exfalso;unfold Bk at a;rw [c] at a;injection a with a;injection a with _ a;exact l a
def ArgZ.step {l k f} (c:ArgZ w B own gs l k f) (e:LFS B gs w w' own own'):ArgZ w' B own' gs l k f:=by
 have z:=e.size;rcases zBa k with d | d;subst d;have:f= []:=(by simpa using c.1.1);subst this;exact ⟨Rd.nil _ _ _ _,λr=>absurd r oM⟩;obtain ⟨b,v,rfl,o,q⟩:=c.1.2 d;have p:w'.heap[b]?=w.heap[b]?:=(by rcases c.2 d _ rfl with a |⟨a,m,n,g⟩;exact e.keep.block b o (by have A:b < B:=a;omega);exact e.b.same g (λi=>i.elim (λi=>i a.x) a.ne) dC dC);refine ⟨⟨c.1.1,λ_=>⟨b,v,rfl,by omega,λu x s=>by rw [<-q u x s];exact zDd p⟩⟩,λ_ y j=>?_⟩;injection j with j;subst j;rcases c.2 d _ rfl with a |⟨a,m,n,g⟩;exact .inl a;exact .inr ⟨a.step e o,m,n,p.trans g⟩
def ArgZ.H {c b f d} (e:Rd w c 1 b f (d.map bv)) (l:c<=B) (hB:B<=w.heap.size):ArgZ w B own gs b f d:=
 ⟨e.mono oM,λj k a=>by
  obtain ⟨g,n,i,m,_⟩:=e.2 j;rw [i] at a;injection a with a;subst a;exact .inl (by show g < B;omega)⟩
def ArgZ.made {d f i e} (c:MadeZ w own gs 5 d f i (e.map bv)):ArgZ w B own gs d f e:=
 ⟨c.1.rd,λp g a=>by
  have l:=(c.2 g a).2
  obtain ⟨o,n,j,b,_,k,_⟩:=c.1.own.2.resolve_left (λm=>by
   have:=m.1;injection this with q1;rw [q1] at a;cases a)
  injection b with b;rw [b] at a;injection a with a;subst a;exact .inr ⟨l,j,_,k⟩⟩
def ArgZ.b {a c b} (d:ArgZ w B own gs a c b) (e:Below w.heap.size w w'):ArgZ w' B own gs a c b:=d.step (LFS.j B gs own e)
def StAt.m {gl aA rate t H} (a:StAt w B own gs gl aA rate t) (e:Keep H w w') (d:∀b,H b->Ap own gs b):StAt w' B own gs gl aA rate t:=
 ⟨e.d a.a λc=>(d _ c).ne rfl,a.low,a.x,a.live.bz e λb c=>(d b c).x,a.n127,a.len,a.max,a.r1,a.r2⟩
def Two (own1:Nat->Nat) (b:Nat) (d:Nat->Nat) (c:Nat):Prop:=∀a,own1 a≠0∨a=b->Ap d c a
end
def StAt.other {w w' B o g d j k m own1 l e n} (a:StAt w B e d j k m n) (i:LFS o g w w' own1 l) (ht:Two own1 g e d):StAt w' B e d j k m n/\Two l g e d:=by
 refine ⟨⟨i.b.d a.a dC dC λf=>(ht _ f).ne rfl,a.low,a.x,a.live.cA i.b λb f=>(ht b f).x,a.n127,a.len,a.max,a.r1,a.r2⟩,λb c=>?_⟩;rcases c with c | c;by_cases p:b < w.heap.size;exact ht b (.inl (i.H b p c));exact ⟨a.fresh oM,by have:=a.a.lt;omega⟩;exact ht b (.inr c)
def Two.symm {own1 e c d} (g:Two own1 c e d) (j:own1 c=0) (k:e d=0):Two e d own1 c:=λb a=>by
 refine ⟨?_,λi=>?_⟩;by_cases f:own1 b=0;exact f;have:=g b (.inl f);rcases a with a | a;exact absurd this.x a;exact absurd a this.ne;have:=g b (.inr i);rcases a with a | a;exact a this.x;exact this.ne a
def sD {B own gs gl aA rate N t} (a b) {w} (d:StAt w B own gs gl aA rate t) (m:t.length=N):
 Calls prog 61 #[gs,(a:Int),(b:Int)] w λc w'=>c=.returned (.bool (dK N a b))/\w=w':=by
 have i:=d.cb m;have p:N<=895:=zj d.n127
 have n:=d.a.cell 0;clear d;unfold dK;by_cases e:0<=a
 .by_cases g:0<=b
  .by_cases k:a<=(N:Int)
   .have o:IntKind.i64.wrap (N - a)=(N:Int) - a:=zu;have f:=zBz e;have j:=zBz g;have l:=zBz k;go_enter func61,ntmps61;go_wp2_with fail;refine i.mono ?_;rintro c w1 ⟨rfl,rfl⟩;go_wp2_with fail;refine i.mono ?_;rintro c w1 ⟨rfl,rfl⟩;go_wp2_with fail;go_ret;refine ⟨?_,rfl⟩
    first | rfl |(show Ending.returned (Value.bool (decide (b<=(N:Int) - a)))=_;congr 2;exact decide_eq_decide.2 oM)
   .have f:=zBz e;have j:=zBz g;have l:=zBy k;go_enter func61,ntmps61;go_wp2_with fail;refine i.mono ?_;rintro c w1 ⟨rfl,rfl⟩;go_wp2_with fail;go_ret;refine ⟨?_,rfl⟩;show Ending.returned (Value.bool false)=_;rw [zBy oM]
  .have f:=zBz e;have j:=zBy g;go_enter func61,ntmps61;go_wp2_with fail;go_ret;exact ⟨rfl,rfl⟩
 .have f:=zBy e;go_enter func61,ntmps61;go_wp2_with fail;go_ret;exact ⟨rfl,rfl⟩
end
end Go.Proofs.YtknjfpcdhdmghaaGreatDoor
