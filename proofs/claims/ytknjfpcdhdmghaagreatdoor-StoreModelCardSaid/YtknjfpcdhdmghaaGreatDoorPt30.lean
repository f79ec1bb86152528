/- Lemmas of the walk. Conditions: each its own. -/
import Derived.Test.YtknjfpcdhdmghaaGreatDoorPt27
import Derived.Test.YtknjfpcdhdmghaaGreatDoorPt28
set_option linter.all false
set_option maxRecDepth 100000
set_option maxHeartbeats 4000000
open Go.Proofs.Tryz
namespace Go.Proofs.YtknjfpcdhdmghaaGreatDoor
open Go.RowKit Go.Shelf
def vL {C g aa a9} (o) {ak q} (V:PermE q C g aa a9 ak) (a3:o < ak.length):
 Calls prog 171 #[g,(o:Int)] q λf a6=>f=.returned (.tuple #[])/\PermE a6 (Gw C q.heap.size) g aa a9 (aK ak o)/\Keep C q a6:=by
 obtain ⟨⟨j,aH,aI,v,u,x,U,P,Q,I,rfl⟩,bi,b1⟩:=V;rw [zBc] at a3;have N:=I.at_;have bH:=iS I.nd N.lt;have bB:=I.sz;obtain ⟨b,W⟩:∃b,x[o]?=some b:=⟨_,zAa a3⟩;have bb:=zAd W;have ag:=(I.tkk b).2 bb;obtain ⟨r,L,O,_,b6⟩:=kj N.t oM;have a8:=N.t;rw [O] at a8;have aN:q.cell? g=some (.pointer (some j)):=(N.a.cell 0).trans rfl;have a1:q.cell? ⟨g,2,none⟩=some (.slice (some r) x.length L):=(N.a.cell 2).trans (by rw [O];rfl);have am:q.cell? ⟨r,o,none⟩=some (.int .i64 b):=(kh a8 o oM).trans (by rw [zAf,W];rfl);have b7:=N.a.lt;have bC:Q.length<=1000:=by have:=iS I.a8 λe J=>(zAc.1 ((I.am e).1 J)).1;have:=I.an;omega
 obtain ⟨E,T⟩:=eqx x.length;have bJ:E<=1000:=oM;rw [T] at a1 a3 a8;have bG:(o:Int) < E:=oM;have bF:(0:Int)<=o:=oM;have bz:wrap64 (o+1)=((o+1:Nat):Int):=by rw [dU oM oM];rfl
 have t:=I;have aM:=W;clear I W a8 N;go_enter func171,ntmps171;go_wp2_with fail;refine wp_region_any kR<|bM (pre:=(λZ=>PermX Z C g j aH aI v u aa a9 x U P Q)) (pJ:=(λ_ Z=>ArenaE Z (Gw (AF j v u) q.heap.size) j (P.set b false) (Q++ [b]))) [4,5,6,7,8,9,10,11,12,13,14,15,16] (AF j v u) 12 [12] [is g,is g,is g,is j,is g,is g,is (.pointer (some ⟨g,2,none⟩)),is (.slice (some r) E L),is (o:Int),is (.pointer (some ⟨r,o,none⟩)),is (b:Int),pT (AF j v u) 3 #[(b:Int)] λR=>.slice (some ⟨R,0,none⟩) 1 1,cO] _ rfl kR kR (t.drewN 1) (λZ H V _ b5=> { V with at_:=V.at_.below b5 }) (λ_ _ _ V b=>V.keep (G:=λ_=>False) (kF b) λ_ _ _ _ _ _ s=>s) tA3 ?_ ?_
 .refine aL<|pH3 0 (.pointer (some g))<|pV3 0 4<|pV3 1 5<|pL3 2 6 (λz m=>have m:Keep (AF j v u) q z:=kD m;(((m.d t.at_.a t.bj).cell 0).trans rfl:z.cell? g=some (.pointer (some j)))) ?_;refine pH3 0 (.pointer (some g))<|pV3 4 8<|pV3 5 9<|pL3 6 10 (λz m=>have m:Keep (AF j v u) q z:=kD m;((m.cell (p:=⟨g,2,none⟩) b7 t.bj).trans a1:z.cell? ⟨g,2,none⟩=some (.slice (some r) E L))) ?_;refine pH3 1 (.int .i64 o)<|pW3 7 11 8 12<|pL3 9 13 (λz m=>have m:Keep (AF j v u) q z:=kD m;((m.cell (p:=⟨r,o,none⟩) b6 (t.aw (by rw [O];rfl))).trans am:z.cell? ⟨r,o,none⟩=some (.int .i64 b))) ?_;refine sC3 (λ_ z m _ _ _ _ Y _ _ _ ab=>?_) ?_
  .replace m:Keep (AF j v u) q z:=kD m;have bu:_=_:=Y 10 14 kR rfl;go_simp;exact ab _ _ (aE (bR.alloc nL _)) ⟨_,rfl,kd _ _ _,λs=>by have ap:=t.cx s;have aq:=m.size;omega⟩
  refine sC3 (λao z m aZ _ _ _ Y _ _ _ ab=>?_) ?_
  .replace m:Keep (AF j v u) q z:=kD m;have bh:=aZ rfl;have bw:_=_:=Y 3 7 kR rfl;have bn:(pT (AF j v u) 3 #[(b:Int)] λR=>.slice (some ⟨R,0,none⟩) 1 1) (ao (.tmp 15)) z:=Y 11 15 kR rfl;obtain ⟨aO,bv,b0,bI⟩:=bn;go_simp;refine (aFN (F:=(AF j v u)) (ga:=j) (gs:=aO) (k:=b) (tk:=P) (fr:=Q) (w:=z) bh.bb ag b0 oM).mono ?_;rintro f bL ⟨rfl,aY,b8⟩
   exact ab _ _ (aW b8) (aY.mono λa _ s=>by
    rcases s with s | s;exact .inl s
    .exact .inr (zAk m.size s))
  exact aB
 .intro ao al m Y ax;replace m:Keep (AF j v u) q al:=kD m;obtain ⟨bK,aj⟩:∃bo,(λ_ Z=>ArenaE Z (Gw (AF j v u) q.heap.size) j (P.set b false) (Q++ [b])) bo al:=ax 12 dC;simp only [zqq];clear Y ax;obtain ⟨H,bm⟩:∃H,H=al:=⟨_,rfl⟩;subst bm;have a4:=m;have av:=aj;clear aN a1 am;have a7:=a4.d t.at_.a t.bj;have bj:=aC (w':=H) t.at_.u λa D _ d=>a4.d d (t.bn d);have ai:=aC (w':=H) t.at_.t λa D d W=>a4.d W (t.aw d);rw [T,O,T] at ai;have a1:H.cell? ⟨g,2,none⟩=some (.slice (some r) E L):=(a7.cell 2).trans (by rw [O,T];rfl);have bD:=a7.lt;have b9:Keep C q H:=(ke C q).trans (a4.mono λa _ s=>t.af s);have aV:=ArenaE.mono av (G:=λa=>Gw (AF j v u) q.heap.size a/\a < H.heap.size) λa d s=>⟨s,d⟩;have ay:=aBU (B:=0) (A:=(some ⟨r,0,none⟩)) (n:=E) (c:=L) (i:=o) (ks:=x) (w:=H) ai a3 oM;clear av a4 aj m;go_wp2_with fail;refine ay.mono ?_;rintro f a0 ⟨rfl,bg,X⟩;rw [show (Value.slice (some r) E L).ownBlock=some r from rfl] at X;have ah:∀a M D,M≠3->Bk H a M D->¬(some r=some a):=λa M D ht d f=>by obtain ⟨bs,b2⟩:=fX ai (show (Value.slice (some r) E L).ownBlock=some a from f);exact ht (aU d b2).1
  have aA:¬(Gw (AF j v u) q.heap.size r/\r < H.heap.size):=λs=>by have an:aI.ownBlock=some r:=(by rw [O];rfl);rcases s.1 with s | s;exact t.aw an s;have:=(t.at_.t.lt r an).2;omega
  have a2:=X.d a7 (ah _ _ _ dC a7);have bl:=aC (w':=a0) bj λa D _ d=>X.d d (ah _ _ _ dC d);have aX:=aV.keep X λa M D _ _ s f=>by injection f with f;subst f;exact aA s
  have b4:C r:=t.fo r (by rw [O];rfl);have ba:Keep C q a0:=b9.trans (X.mono λa _ f=>by
   injection f with f;subst f;exact b4)
  have a1:a0.cell? ⟨g,2,none⟩=some (.slice (some r) E L):=(a2.cell 2).trans (by rw [O,T];rfl);have bx:=a2.frozen 2;have bE:=a2.lt;clear ah X ay;go_wp2_with fail;go_end0;have ad:Keep (λa=>a=g) a0 (a0.setCell ⟨g,2,none⟩ (.slice (some r) (E - 1) L)):=ka (F:=λa=>a=g) (ke _ _) (p:=⟨g,2,none⟩) (.inl rfl) _;have ac:∀a M D,M≠140->Bk a0 a M D->¬(a=g):=λa M D ht d f=>by subst f;exact ht (aU d a2).1
  obtain ⟨bA,bq,bt,bp,br,ap,aq,aP,aQ,ar⟩:=aX.keep ad λa M D ht d _=>ac a M D (λf=>by subst f;revert ht;decide) d;have y:=t;have aG:(b::aK x o).Perm x:=fH aM;have bf:=aG.nodup_iff.2 y.nd;obtain ⟨bd,be⟩:=zDe.1 bf;have aD:∀e,e∈aK x o↔e∈x/\e≠b:=λe=>by rw [<-aG.mem_iff,zDf];constructor;intro J;exact ⟨.inr J,λf=>bd (by rw [<-f];exact J)⟩;rintro ⟨S | S,aR⟩;exact absurd S aR;exact S
  have b3:(aK x o).length=E - 1:=(by have:=cJ (l:=x) (k:=o) (by rw [T];exact a3);have:=T;omega);have aw:∀a,Gw (AF j v u) q.heap.size a/\a < H.heap.size->Gw C q.heap.size a:=λa s=>by rcases s.1 with R | R;exact .inl (y.af R);exact .inr R
  have bc:b < P.length:=(zAc.1 ag).1;have az:∀e,(P.set b false)[e]?=if e=b then some false else P[e]?:=λe=>by
   rw [zBm];by_cases K:b=e
   .subst K;simp [bc]
   .rw [zBw K,zBw (λf=>K f.symm)]
  refine ⟨rfl,⟨⟨j,aH,.slice (some r) (E - 1) L,_,_,aK x o,U,P.set b false,Q++ [b],⟨⟨a2.set 2 _,aC bl λa D _ d=>ad.d d (ac _ _ _ dC d),?_,ap,aq,aP,.inr λf=>aA (ar r f.symm),λe J=>y.at_.lt e ((aD e).1 J).1,⟨zAp _,zAp _⟩⟩,.inl y.fp,.inl y.fa,λa d=>.inl (y.fl a d),λa d=>.inl (y.fo a (by rw [O];exact d)),λa d=>aw a (aQ a d),λa d=>aw a (ar a d),be,by rw [zAt];exact y.an,λe=>?_,?_,λe=>?_,y.sz⟩,(uY _ _ _).symm⟩,?_,λe J=>?_⟩,ka (F:=C) ba (p:=⟨g,2,none⟩) (.inl y.fp) _⟩;rw [b3];exact aC bg λa D _ d=>ad.d d (ac _ _ _ dC d)
  .rw [az,aD e,<-y.tkk e];by_cases K:e=b
   .simp [K]
   .simp [K]
  .rw [zDb];refine ⟨y.a8,by simp,λe J aJ a5=>?_⟩;rw [zDa] at a5;subst a5;intro f;subst f;have au:=(y.am e).1 J;have aT:=ag;rw [aT] at au;cases au
  .rw [az,zCp,y.am e,zDa];by_cases K:e=b
   .simp [K]
   .simp [K]
  unfold aK;rw [zEx];have ae:=bi;refine ⟨ae.sublist (zEY _ _),ae.sublist (zGl _ _),λe I aJ a5=>?_⟩;have:=zEx.1 (show ((x.map λb=>(aF U b,aS U b)).take o++(x.map λb=>(aF U b,aS U b)).drop o).Pairwise (λN a=>N.1 < a.1) by rw [zAu];exact ae);refine this.2.2 e I aJ ?_;rw [<-zFB] at a5;exact zFz a5;refine b1 e ?_;unfold aK at J;rcases zCp.1 J with S | S;exact zFy S;exact zFz S
def aH8 {a:List (Nat×Nat)} {b:Nat} (p:a.Pairwise (λc d=>c.1 < d.1)) (o:b < a.length) (e:Nat×Nat):e∈aK a b↔e∈a/\e.1≠a[b].1:=by
 have i:(a[b]::aK a b).Perm a:=fH (zAa o);have q:(a[b]::aK a b).Pairwise (λc d:Nat×Nat=>c.1≠d.1):=i.symm.pairwise (p.imp λ{c d} g=>zGh g) λ{c d} g f=>g f.symm;obtain ⟨k,r⟩:=zEf.1 q;constructor;intro j;exact ⟨i.subset (by simp [j]),λf=>k e j f.symm⟩;rintro ⟨l,m⟩;rcases zDf.1 (i.symm.subset l) with rfl | n;exact absurd rfl m;exact n
def aBs (b:Nat->Prop) (k g f row:Nat) (l:List (Nat×Nat)) (d:World) (j:Ending) (e:World):Prop:=
 ∃(i:Int) (c:List (Nat×Nat)),j=.returned (.int .i64 i)/\(∀a,a∈c↔a∈l/\a.1≠row)/\PermE e (Gw b d.heap.size) k g f c/\Keep b d e
def aDV {w} {q y x:Nat} (row:Nat) {D v} (z:PermE v w q y x D):
 Calls prog 168 #[q,(row:Int)] v (aBs w q y x row D v):=by
 have A:=z;obtain ⟨⟨M,R,S,T,Q,i,c,P,L,b,rfl⟩,u,C⟩:=z;have t:=zDm.1 u;have o:i.Pairwise (λF p=>aF c F < aF c p):=t;have O:=iS b.nd b.at_.lt;have N:=b.sz;have d:=lS row b.at_ o oM;unfold aBs;by_cases j:∃a∈i,aF c a=row
 .rw [zBz j] at d;obtain ⟨a,s,n⟩:=(wZ o row).2 j;obtain ⟨e,k⟩:∃e,(i.countP λa=>decide (aF c a < row))=e:=⟨_,rfl⟩;rw [k] at d s;have r:=(zAc.1 s).1;have E:=n;clear b C o t j n k;go_enter func168,ntmps168;go_wp2_with fail;refine d.mono ?_;rintro l w1 ⟨rfl,g⟩;clear d;go_wp2_with fail;have B:=A.below g;refine (vL e B (by rw [zBc];exact r)).mono ?_;rintro l U ⟨rfl,G,n⟩;clear B;go_wp2_with fail;go_ret;refine ⟨0,_,rfl,λK=>?_,G.mono λp _ f=>?_,(kF g).trans n⟩
  .have J:e < (i.map λa=>(aF c a,aS c a)).length:=(by rw [zBc];exact r);rw [aH8 u J];have H:((i.map λa=>(aF c a,aS c a))[e]).1=row:=(by rw [zGr];have m:=s;rw [zAa r] at m;injection m with m;rw [m];exact E);rw [H]
  rcases f with f | f;exact .inl f;exact .inr (zj g.size)
 .rw [zBy j] at d;obtain ⟨e,k⟩:∃e,(i.countP λa=>decide (aF c a < row))=e:=⟨_,rfl⟩;rw [k] at d;clear b u C o t k;go_enter func168,ntmps168;go_wp2_with fail;refine d.mono ?_;rintro l w1 ⟨rfl,g⟩;clear d;go_wp2_with fail;go_ret;refine ⟨7,_,rfl,λK=>?_,(A.below g).mono λp _ f=>.inl f,kF g⟩;constructor;intro b;refine ⟨b,λl=>?_⟩;obtain ⟨a,I,rfl⟩:=zAy.1 b;exact j ⟨a,I,l⟩;intro b;exact b.1
def aMR {b c a} (d:b < c) (e:b≠a) (f:c≠a):bN b a < bN c a:=by
 unfold bN;split <;> split <;> omega
def aBg {j g r t} (d) {ai a} (u:PermE a j g r t ai) (a3:∀c,j c->c < a.heap.size) (aL:d < r) (aE:r<=100000) (aZ:t<=100000):
 Calls prog 111 #[g,(d:Int)] a λo ak=>o=.returned (.int .i64 0)/\(∃M:List (Nat×Nat),(∀i,i∈M↔i∈ai/\i.1≠d)/\PermE ak (Gw j a.heap.size) g (r - 1) t (M.map λi=>(bN i.1 d,i.2)))/\Keep j a ak:=by
 obtain ⟨e,rfl⟩:∃e,r=e+1:=⟨r - 1,by omega⟩;rw [zBb];have aJ:g < a.heap.size:=by obtain ⟨⟨G,B,P,Q,O,w,l,N,E,q,_⟩,_⟩:=u;exact q.at_.a.lt
 have D:a.cell? ⟨g,3,none⟩=some (.int .i64 (e+1:Nat)):=by obtain ⟨⟨G,B,P,Q,O,w,l,N,E,q,_⟩,_⟩:=u;exact (q.at_.a.cell 3).trans rfl
 have ah:¬((d:Int)>=(e+1:Nat)):=oM;have aM:¬e+1<=d:=oM;have aN:=zBy ah;have b4:decide ((d:Int) < 0)=false:=zs
 have aB:IntKind.i64.wrap ((e+1:Nat) - 1)=(e:Int):=zu
 obtain ⟨C,H⟩:=eqx (e+1);rw [H] at D ah aN aB u aE aL aM;obtain ⟨m,v⟩:=eqx (a.alloc (.cells #[(d:Int)] 3));have z:Below a.heap.size a m:=by rw [<-v];exact bR.alloc nL _
 have A:Bk m a.heap.size 3 #[(d:Int)]:=by rw [<-v];exact kd a _ _
 have aO:∀aj,(m.drewN aj).cell? a.heap.size=some (.int .i64 d):=λaj=>(A.cell 0).trans rfl;have aQ:m.cell? a.heap.size=some (.int .i64 d):=(A.cell 0).trans rfl;have aP:m.cell? ⟨g,3,none⟩=some (.int .i64 C):=(z.cell (p:=⟨g,3,none⟩) aJ).trans D;have ae:m.heap.size=a.heap.size+1:=by rw [<-v,sZ0]
 have b1:g < m.heap.size:=oM;have a0:=u.below z;obtain ⟨an,ar,au,av,ap,aq,az⟩:=hqq7 a0 v z A a3 H ae;clear u a0 v z A a3 H ae D;go_enter func111,ntmps111;go_wp2_with fail;rw [ar.out];go_quiet (fail)
 rename_i nq
 have b3:∀(W:Fn) (first V:Array Value) (a:World),(Instr.makeFunc W first V).run prog a=.ok (.func W first V) a:=λ_ _ _ _=>rfl;go_wp2_with fail;have a1:=an.below (km bR nq);have I:=aDV d a1;unfold aBs at I;refine I.mono ?_;rintro o R ⟨aR,M,rfl,ac,aD,K⟩;obtain ⟨⟨G,B,P,Q,O,w,l,N,E,q,rfl⟩,ad,a6⟩:=aD;have y:=q.at_;have aV:R.cell? ⟨g,3,none⟩=some (.int .i64 C):=(y.a.cell 3).trans rfl;have aX:=y.a.frozen 3;have b0:=y.a.lt;have J:Bk R a.heap.size 3 #[(d:Int)]:=K.d (av.drewN nq) λo=>by have:=ap _ o;omega
 have b5:R.cell? a.heap.size=some (.int .i64 d):=(J.cell 0).trans rfl;obtain ⟨b,ay,T,x,aw,U⟩:=hqq6 q ad a6 ac K J;clear q ad a6 ac K J y I a1 aO aQ aP;go_wp2_with fail;have a4:=b.at_.bd e;have a9:=U.m (p:=⟨g,3,none⟩) (λo=>by have aW:a.heap.size=g:=o;omega) (.int .i64 e);have af:∀c,B.ownBlock=some c->c≠a.heap.size:=λc s o=>by subst o;obtain ⟨aT,aI⟩:=fX b.at_.u s;exact absurd (aU aI U).1 dC
 have Z:∀k,k∈w->aF l k<=1000000000000/\aS l k<=1000000000000:=λk aK=>by have:=T (aF l k,aS l k) (zAy.2 ⟨k,aK,rfl⟩);have Y:aF l k < C:=this.1;have aC:aS l k < t:=this.2;omega
 have b2:=iS b.nd b.at_.lt;refine (aBp a4 b.nd (zj b.sz) a9 af Z).mono ?_;rintro o al ⟨rfl,aa,am,L,a7,a5⟩;have a8:∀c,Gw j (m.drewN nq).heap.size c->Gw j a.heap.size c:=λc n=>by rcases n with n | n;exact .inl n;exact .inr (by have:=az.out;simp at n;omega)
 have ab:Keep j a al:=((kF (km au nq)).trans aw).trans' ((ka (F:=Gw j (m.drewN nq).heap.size) (ke _ _) (p:=⟨g,3,none⟩) (.inl b.fp) _).trans (aa.mono λc _ s=>b.fl c s)) λc s n=>by rcases a8 c n with X | X;exact X;omega
 have a2:PermE al (Gw j a.heap.size) g e t ((w.map λk=>(aF l k,aS l k)).map λi=>(bN i.1 d,i.2)):=by
  refine PermE.mono (F:=Gw j (m.drewN nq).heap.size) ⟨⟨G,B,P,Q,O,w,am,N,E,⟨a5,b.fp,b.fa,b.fl,b.fo,b.ft,b.ff,b.nd,by rw [L];exact b.an,b.tkk,b.a8,b.am,by rw [L];exact b.sz⟩,(aC3 (f:=λi=>(bN i.1 d,i.2)) a7).symm⟩,?_,λi q=>?_⟩ λc _ n=>a8 c n;refine zDm.2 (List.Pairwise.imp_of_mem (λ{aA c} aG s aH=>?_) ay);exact aMR aH ((x aA).1 aG).2 ((x c).1 s).2
  .obtain ⟨S,ag,rfl⟩:=zAy.1 q;have Y:=T S ag;have aC:=((x S).1 ag).2;have aY:=aq.out;refine ⟨?_,Y.2⟩;show bN S.1 d < e;unfold bN;split <;> omega
 obtain ⟨ao,ax⟩:=hqq2 a2 ab;clear ab a2 a5 a7 aa L Z af a9 a4;go_wp2_with fail;go_ret;exact ⟨rfl,⟨_,x,ao⟩,ax⟩
def aBh {n i J O} (d) {k c} (o:PermE c n i J O k) (ar:∀t,n t->t < c.heap.size) (bp:d < O) (bz:J<=100000) (b6:O<=100000) (av:∀b∈k,∀m∈k,b.2=m.2->b=m):
 Calls prog 112 #[i,(d:Int)] c λe I=>e=.returned (.int .i64 0)/\(∃M:List (Nat×Nat),(∀b,b∈M↔b∈k/\b.2≠d)/\PermE I (Gw n c.heap.size) i J (O - 1) (M.map λb=>(b.1,bN b.2 d)))/\Keep n c I:=by
 obtain ⟨q,rfl⟩:∃q,O=q+1:=⟨O - 1,by omega⟩;rw [zBb];have bd:i < c.heap.size:=by obtain ⟨⟨y,v,D,E,C,r,j,B,x,a,_⟩,_⟩:=o;exact a.at_.a.lt
 have a5:c.cell? ⟨i,4,none⟩=some (.int .i64 (q+1:Nat)):=by obtain ⟨⟨y,v,D,E,C,r,j,B,x,a,_⟩,_⟩:=o;exact (a.at_.a.cell 4).trans rfl
 have aD:¬((d:Int)>=(q+1:Nat)):=oM;have bq:¬q+1<=d:=oM;have br:=zBy aD;have bD:decide ((d:Int) < 0)=false:=zs
 have b2:IntKind.i64.wrap ((q+1:Nat) - 1)=(q:Int):=zu
 obtain ⟨P,a6⟩:=eqx (q+1);rw [a6] at a5 aD br b2 o b6 bp bq;obtain ⟨u,U⟩:=eqx (c.alloc (.cells #[(d:Int)] 3));have a0:Below c.heap.size c u:=by rw [<-U];exact bR.alloc nL _
 have a1:Bk u c.heap.size 3 #[(d:Int)]:=by rw [<-U];exact kd c _ _
 have aE:∀a2,(u.drewN a2).cell? c.heap.size=some (.int .i64 d):=λa2=>(a1.cell 0).trans rfl;have aH:u.cell? c.heap.size=some (.int .i64 d):=(a1.cell 0).trans rfl;have aG:u.cell? ⟨i,4,none⟩=some (.int .i64 P):=(a0.cell (p:=⟨i,4,none⟩) bd).trans a5;have aA:u.heap.size=c.heap.size+1:=by rw [<-U,sZ0]
 have bA:i < u.heap.size:=oM;have ao:=o.below a0;obtain ⟨aJ,aP,ae,af,aN,aO,a4,aT⟩:=hqq8 ao U a0 a1 ar a6 aA av;clear o ao U a0 a1 ar a6 aA a5 av;go_enter func112,ntmps112;go_wp2_with fail;rw [aP.out];go_quiet (fail)
 rename_i nq
 have bC:∀(ak:Fn) (first aj:Array Value) (c:World),(Instr.makeFunc ak first aj).run prog c=.ok (.func ak first aj) c:=λ_ _ _ _=>rfl;go_wp2_with fail;have S:=aJ.below (km bR nq);have a9:Calls prog 102 #[i,(d:Int)] (u.drewN nq) λe I=>Below (u.drewN nq).heap.size (u.drewN nq) I/\((e=.returned (.int .i64 (-1))/\∀b∈k,b.2≠d)∨∃H b,e=.returned (.int .i64 (H:Nat))/\k[H]?=some b/\b.2=d):=by
  obtain ⟨⟨y,v,D,E,C,r,j,B,x,a,rfl⟩,az,a7⟩:=S;have bh:=iS a.nd a.at_.lt;have bx:=a.sz;refine (kE d a.at_ oM).mono ?_;rintro e I ⟨rfl,Q⟩;refine ⟨Q,?_⟩;by_cases a8:∃g∈r,aS j g=d
  .obtain ⟨a2,b,bi,bm,bn⟩:=xZ (p:=λg=>decide (aS j g=d)) (l:=r) (by obtain ⟨g,bf,ab⟩:=a8;exact ⟨g,bf,zBz ab⟩) 0;rw [bi,zBi];exact .inr ⟨a2,_,rfl,by rw [zAf,bm];rfl,of_decide_eq_true bn⟩
  rw [mD (p:=λg=>decide (aS j g=d)) (l:=r) (λg X=>zBy λe=>a8 ⟨g,X,e⟩) 0];refine .inl ⟨rfl,λb a=>?_⟩;obtain ⟨g,X,rfl⟩:=zAy.1 a;exact λe=>a8 ⟨g,X,e⟩
 have ay:∀s (M:List (Nat×Nat)),(∀b,b∈M↔b∈k/\b.2≠d)->PermE s (Gw n c.heap.size) i J P M->Keep n c s->Bk s c.heap.size 3 #[(d:Int)]->∃y v D E C r j B x,PermX s (Gw n c.heap.size) i y v D E C J P r j B x/\Calls prog 169 #[i,.func (.func 172) #[] #[c.heap.size]] (s.setCell ⟨i,4,none⟩ (.int .i64 q)) λe I=>e=.returned (.tuple #[])/\PermE I (Gw n c.heap.size) i J q (M.map λb=>(b.1,bN b.2 d))/\Keep n c I:=by
  rintro s M Z ⟨⟨y,v,D,E,C,r,j,B,x,a,rfl⟩,az,a7⟩ ab A;refine ⟨y,v,D,E,C,r,j,B,x,a,?_⟩;have b8:=a.at_.ay q;have W:=A.m (p:=⟨i,4,none⟩) (λe=>by have bv:c.heap.size=i:=e;omega) (.int .i64 q);have bl:∀t,v.ownBlock=some t->t≠c.heap.size:=λt Q e=>by subst e;obtain ⟨bu,ba⟩:=fX a.at_.u Q;exact absurd (aU ba A).1 dC
  have b5:∀g,g∈r->aF j g<=1000000000000/\aS j g<=1000000000000:=λg X=>by have:=a7 (aF j g,aS j g) (zAy.2 ⟨g,X,rfl⟩);have am:aF j g < J:=this.1;have b4:aS j g < P:=this.2;omega
  have bh:=iS a.nd a.at_.lt;refine (aBq b8 a.nd (zj a.sz) W bl b5).mono ?_;rintro e N ⟨rfl,bg,aI,ax,bc,b9⟩;refine ⟨rfl,⟨⟨y,v,D,E,C,r,aI,B,x,⟨b9,a.fp,a.fa,a.fl,a.fo,a.ft,a.ff,a.nd,by rw [ax];exact a.an,a.tkk,a.a8,a.am,by rw [ax];exact a.sz⟩,(aC3 (f:=λb=>(b.1,bN b.2 d)) bc).symm⟩,zDm.2 (az.imp λ{bt t} b7=>b7),λb bo=>?_⟩,?_⟩
  .obtain ⟨m,L,rfl⟩:=zAy.1 bo;have am:=a7 m L;have b4:=((Z m).1 L).2;have bw:=aO.out;refine ⟨am.1,?_⟩;show bN m.2 d < q;unfold bN;split <;> omega
  .refine ab.trans' ((ka (F:=Gw n c.heap.size) (ke _ _) (p:=⟨i,4,none⟩) (.inl a.fp) _).trans (bg.mono λt _ Q=>a.fl t Q)) λt Q w=>by rcases w with al | al;exact al;omega
 have ah:=lhd ay;clear ay;refine a9.mono ?_;rintro e s ⟨z,⟨rfl,ac⟩|⟨H,b,rfl,ad,aC⟩⟩
 .have A:Bk s c.heap.size 3 #[(d:Int)]:=(af.drewN nq).below z (by have:=a4.out;simp;omega);have Y:Keep n c s:=(kF (km ae nq)).trans (kF z);have K:=(S.below z).mono (G:=Gw n c.heap.size) λt _ w=>.inl w;obtain ⟨y,v,D,E,C,r,j,B,x,a,V⟩:=ah s k (λb=>⟨λo=>⟨o,ac b o⟩,λo=>o.1⟩) K Y A;have b1:s.cell? ⟨i,4,none⟩=some (.int .i64 P):=(a.at_.a.cell 4).trans rfl;have b3:=a.at_.a.frozen 4;have be:=a.at_.a.lt;have bs:s.cell? c.heap.size=some (.int .i64 d):=(A.cell 0).trans rfl;obtain ⟨a3,aZ⟩:=hqq2 V ac;clear V ac a K Y A z S a9 aE aH aG;go_wp2_with fail;refine a3.mono ?_;rintro e N ⟨rfl,T,R⟩;obtain ⟨aL,aW⟩:=hqq2 T R;clear T R;go_wp2_with fail;go_ret;exact ⟨rfl,⟨k,λb=>⟨λo=>⟨o,aZ b o⟩,λo=>o.1⟩,aL⟩,aW⟩
 .have A:Bk s c.heap.size 3 #[(d:Int)]:=(af.drewN nq).below z (by have:=a4.out;simp;omega);have K:=S.below z;have aa:=(zAc.1 ad).1;have au:=vL H K aa;have b0:=lhd K.2.1;have aV:=lhd (λm (L:m∈k) b (a:b∈k) (e:m.1=b.1)=>K.inj L a e);have bB:=zy ((H:Int)>=0);have bj:=z.size;obtain ⟨ag,ai,aQ,aR⟩:=hqq4 ad aC z A;clear ad aC A z K S a9 aE aH aG;go_wp2_with fail;refine au.mono ?_;rintro e N ⟨rfl,T,R⟩;have W:Bk N c.heap.size 3 #[(d:Int)]:=R.d aR λe=>by have:=aN _ e;omega
  have Y:Keep n c N:=((kF (km ae nq)).trans (kF aQ)).trans R;have Z:∀m,m∈aK k H↔m∈k/\m.2≠d:=λm=>by
   rw [aH8 b0 aa];have bb:k[H]=b:=(by have an:=ag.out;rw [zAa aa] at an;injection an);rw [bb];have aB:b∈k:=zAd ag;refine and_congr_right λL=>not_congr ⟨λe=>?_,λe=>?_⟩;rw [aV m L b aB e];exact ai
   .rw [aT m L b aB (by rw [e,ai.out])]
  have ap:=T.mono (G:=Gw n c.heap.size) λt _ w=>by rcases w with w | w;exact .inl w;exact .inr (by have:=a4.out;simp at bj;omega)
  obtain ⟨y,v,D,E,C,r,j,B,x,a,V⟩:=ah N (aK k H) Z ap Y W;have b1:N.cell? ⟨i,4,none⟩=some (.int .i64 P):=(a.at_.a.cell 4).trans rfl;have b3:=a.at_.a.frozen 4;have be:=a.at_.a.lt;have bs:N.cell? c.heap.size=some (.int .i64 d):=(W.cell 0).trans rfl;obtain ⟨a3,aY⟩:=hqq2 V Z;clear V Z a ap T Y W R au;go_wp2_with fail;refine a3.mono ?_;rintro e bE ⟨rfl,aq,aw⟩;obtain ⟨aM,aX⟩:=hqq2 aq aw;clear aq aw;go_wp2_with fail;go_ret;exact ⟨rfl,⟨_,aY,aM⟩,aX⟩
def aBK (b e d c row a) (g:PermR a b e d c) (l:∀o∈c,o.1≠row):
 Calls prog 134 #[b,(row:Int)] a λf n=>f=.returned (.int .i64 (-1))/\Below a.heap.size a n:=by
 obtain ⟨p,s,y,z,A,x,v,q,w,r,i,j,t,u,rfl⟩:=g;exact aDT row i j oM λm k=>l _ (zAy.2 ⟨m,k,rfl⟩)
def sU (c g f e row d a) (i:PermR a c g f e) (l:(row,d)∈e):
 Calls prog 134 #[c,(row:Int)] a λb n=>b=.returned (.int .i64 d)/\Below a.heap.size a n:=by
 obtain ⟨o,r,y,z,A,x,v,p,w,q,j,k,s,t,rfl⟩:=i;obtain ⟨u,m,b⟩:=zAy.1 l;injection b with e1 e2;subst e2;exact aDS j k oM oM m e1
def aDZ (G W gk x ar:Nat) (e d g) (r n:Nat) (F) (y:LiveG F G W gk x ar (e.length+1) (aH (aG e) d) g) (P:∀j∈g,d[j.1]?=some j.2) (a1:∃j∈g,j.2=0) (q:IsSuf (aG e) d) (ae:e.length<=895) (N:d[r]?=some n):
 Calls prog 71 #[W,(r:Int)] F λi au=>i=.returned (.int .i64 n)/\VB G F au:=by
 have O:d.length=e.length+1:=by rw [q.len,aO]
 have a6:=(zAc.1 N).1;have J:(aH (aG e) d).length=e.length+1:=by rw [bY,O]
 have ag:n < e.length+1:=by have:=q.lt (zAd N);rwa [aO] at this
 obtain ⟨k,K⟩:=eqx e.length;have an:∀a:Nat,d[a]?=some 0->(a,0)∈g:=λa z=>by obtain ⟨⟨aq,ap⟩,E,i⟩:=a1;have a4:ap=0:=i;subst a4;have f:d[aq]?=some 0:=P _ E;rw [zC q z f];exact E
 have ah:∀a b c:Nat,d[a]?=some b->(a,c)∈g->c=b:=λa b c m ad=>by have f:d[a]?=some c:=P _ ad;rw [m] at f;injection f with f;exact f.symm
 have al:∀a b:Nat,d[a]?=some (b+1)->∃S s,(aH (aG e) d)[a]?=some S/\cR (aH (aG e) d) S a=s/\d[s]?=some b:=λa b m=>by obtain ⟨z,U⟩:=zAc.1 m;have M:b+1 < (aG e).length:=q.lt (zAd m);obtain ⟨s,Y,V⟩:=q.row (p:=b) oM;have a0:=fA e;have ab:=uT a0 z U (by rw [aO] at M;omega);exact ⟨(aG e).getD b 0,s,zAc.2 ⟨_,ab⟩,lf q a0 z Y U V,zAc.2 ⟨Y,V⟩⟩
 rw [K] at y;rw [K] at J ag ae O;have aa:¬(k:Int) < r:=oM;have a7:decide ((r:Int) < 0)=false:=zs
 have a8:decide ((r:Int) > k)=false:=zt
 have a9:decide (k < r)=false:=zt
 have a3:=(dR (eX e) (rs:=d));obtain ⟨aA,B⟩:=y.a;have v:=B.cell 0;have w:=B.cell 1;have ax:=B.lt;clear a1 P q a6 K O B;go_enter func71,ntmps71;go_wp2_with fail;refine (cD y.ai J oM).mono ?_;rintro i w1 ⟨rfl,rfl⟩;go_wp2_with fail;clear v w aa a7 a8 a9;go_loopw [1,5] (λj T wr=>∃a b u:Nat,d[a]?=some b/\b+u=n/\j=.int .i64 a/\T=.int .i64 u/\VB G F wr) (λ_ T _=>n+1 -(intOf T).toNat)
 case atStart=>exact ⟨r,n,0,N,rfl,rfl,rfl,VisK.refl _ _⟩
 case round=>
  obtain ⟨a,b,u,m,M,rfl,rfl,Q⟩:=hrel;have f:=y.b Q.1;obtain ⟨aB,C⟩:=f.a;have v:=C.cell 0;have w:=C.cell 1;have ay:=C.lt;clear C;by_cases A:∃c,(a,c)∈g
  .obtain ⟨c,L⟩:=A;have a5:=ah a b c m L;subst a5;have aw:¬(c:Int) < 0:=oM;have az:IntKind.i64.wrap (c+u)=(n:Int):=zu;clear M;go_wp2_with fail;refine (sU x (k+1) (k+1) g a c wr f.perm L).mono ?_;rintro i a2 ⟨rfl,o⟩;have t:=f.b (kb o);obtain ⟨ao,l⟩:=t.a;have H:=l.cell 0;have I:=l.cell 1;have ac:=l.lt;have R:=Q.below o;clear v w o l;go_wp2_with fail;refine (sU x (k+1) (k+1) g a c a2 t.perm L).mono ?_;rintro i av ⟨rfl,Z⟩;have D:=R.below Z;clear H I Z;go_wp2_with fail;go_ret;exact ⟨rfl,D⟩
  .have af:∀j∈g,j.1≠a:=λj E i=>A ⟨j.2,by rw [<-i];exact E⟩
   obtain ⟨c,rfl⟩:∃c,b=c+1:=⟨b - 1,by
    rcases zBa b with X | X;subst X;exact absurd ⟨0,an a m⟩ A
    .omega⟩
   obtain ⟨S,s,ai,aj,ak⟩:=al a c m;clear A;go_wp2_with fail;refine (aBK x (k+1) (k+1) g a wr f.perm af).mono ?_;rintro i a2 ⟨rfl,o⟩;have t:=f.b (kb o);obtain ⟨ao,l⟩:=t.a;have H:=l.cell 0;have I:=l.cell 1;have ac:=l.lt;have R:=Q.below o;clear v w o l;go_wp2_with fail;refine (oO t.walk ai a3 (by rw [J];omega)).mono ?_;rintro i av ⟨rfl,D⟩;rw [aj];have am:=R.trans D;clear H I D;go_wp2_with fail;go_roundw
   case rel=>exact ⟨s,c,u+1,ak,by omega,rfl,by go_num,am⟩
   case measure=>exact zr
def aEb (e:World) (g:Nat) (b a:List UInt8) (i:Ending) (f:World):Prop:=
 ∃c d,i=.returned (.slice c (gZ b a).length d)/\Made f e.heap.size 3 1 c (gZ b a).length d ((gZ b a).map sv)/\VB g e f
def aNJ {Bw gl rate t A0 m0} (G) {B ss} (c) (H:iV ss=c) {w} (a2:TpAt w Bw gl t rate) (R:Rd w B 1 A0 m0 (ss.map slV)) (T:∀D∈ss,Rd w B 1 D.A D.n (D.l.map bv)) (hB:B<=w.heap.size) (aa:m0<=1000000) (af:c.length<=1000000):
 Calls prog 27 #[gl,.slice A0 m0 G] w (aEb w Bw t c):=by
 obtain ⟨ak,a4,s,ai,aj⟩:=info_parts gI;obtain ⟨e,gk,a1,al,k,M,ag,s,ac⟩:=a2;have Z:=s;clear s;have p:e.length=t.length+1:=by rw [k.len,aO]
 have q:=vS (n:=t.length) G H rfl M.ai (by rw [bY,p]) oM (dR (eX t)) R T hB aa af;rw [aEv k (fA t)] at q;have y:=aEp k c;have N:=aNR (aG t) true (dQ c);rw [aO] at N;have I:Nq (aG t) false (dQ c)<=Nq (aG t) true (dQ c):=by rw [aHx];omega
 have o:(gZ t c).length=Nq (aG t) true (dQ c) - Nq (aG t) false (dQ c):=by rw [<-(aEu k c).length_eq,zAj,zAw,p];omega
 obtain ⟨a,x⟩:=eqx (Nq (aG t) false (dQ c));obtain ⟨d,v⟩:=eqx (Nq (aG t) true (dQ c));obtain ⟨au,Q⟩:=eqx (gZ t c);unfold aEb;rw [x,v] at q y o;rw [x] at I;rw [v] at N I;rw [Q] at y o⊢;clear R T x v Q H;go_enter func27,ntmps27;go_wp2_with fail;refine q.mono ?_;rintro m w1 ⟨rfl,ah⟩;clear q;go_wp2_with fail;go_loopw [7,8] (λam C wr=>∃b:Nat,b<=d - a/\C=.int .i64 (a+b:Nat)/\wr.ownsRow w.heap.size 3 1 am b (((e.drop a).take b).map sv)/\VB Bw w wr) (λ_ C _=>d -(intOf C).toNat)
 case atStart=>exact ⟨0,zAp _,by simp,ki _ _ _ _,ah⟩
 case round=>
  obtain ⟨b,aq,rfl,j,r⟩:=hrel;by_cases a7:b < d - a
  .have a9:((a+b:Nat):Int) < d:=oM;have a5:a+b < e.length:=(by rw [p];omega);obtain ⟨u,W⟩:∃u,e[a+b]?=some u:=⟨_,zAa a5⟩;have ad:(e.drop a).take (b+1)=(e.drop a).take b++ [u]:=(by rw [zAv,zBt,W];rfl);have a6:=M.b r.1;go_wp2_with fail;refine (aDZ Bw gl gk a1 rate t e al (a+b) u wr a6 ag Z k ac W).mono ?_;rintro m an ⟨rfl,z⟩;have V:=r.trans z;have g:=z.1.own j dC dC;have U:=V.1.size;clear z;go_wp2_with (at_builtin;refine bP _ rfl (.tmp 21) (.tmp 25) _ rfl w.heap.size 3 ak (.int .i64 0) 1 8 underlying27 a4 s ai aj rfl dC _ b _ rfl g rfl rfl (by simp [Value.oneCell']) zx oM U ?_;intro av Y ae K ar a3);have i:=aX (kg w.heap.size an) g K U;have A:=VB.grow V i;clear i K a3;go_roundw
   case rel=>exact ⟨b+1,by omega,by go_num,by rw [ad,zAz];exact ae,A⟩
   case measure=>exact zr
  .obtain rfl:b=d - a:=oM;have a9:¬((a+(d - a):Nat):Int) < d:=oM;have O:((e.drop a).take (d - a)).map sv=(((e.drop a).take (d - a)).map λX:Nat=>(X:Int)).map (Value.int .i64):=(by rw [zCh];rfl);rw [O] at j;obtain ⟨E,F,rfl,S⟩:=aFt j (by rw [zBc,zAj,zAw,p];omega) oM;have P:=j;rw [y] at S;have a8:∀f,(Value.slice E (d - a) F).ownBlock=some f->w.heap.size<=f:=λf J=>(P.lt f J).1;clear j P a7 O;go_wp2_with fail;refine S.mono ?_;rintro m Y ⟨rfl,g,L⟩;have i:Below w.heap.size wr Y:=L.e r.1.size (λf J m=>by have:=a8 f m;omega);have A:=VB.grow r i;rw [zCh] at g;obtain ⟨ao,ap,a0,ab⟩:=aR g;cases a0;clear g L i;go_wp2_with fail;go_ret;exact ⟨E,F,by rw [o];rfl,by rw [o];exact ab,A⟩
def TxtAt (e:World) (c d:Nat) (a:List UInt8):Prop:=∃b,IsSuf (aG a) b/\LvW e c d (aH (aG a) b)/\a.length<=895
def TxtAt.b {d w' a b c} (e:TxtAt d a b c) (j:Vis d w'):TxtAt w' a b c:=by
 obtain ⟨k,f,g,i⟩:=e;exact ⟨k,f,g.b j,i⟩
def TxtAt.mono {c B B' a b} (d:TxtAt c B a b) (hB:B'<=B):TxtAt c B' a b:=by
 obtain ⟨m,e,⟨gk,j,k,l,f,i⟩,g⟩:=d;exact ⟨m,e,⟨gk,j,k,l,f,i.mono hB⟩,g⟩
def TxtAt.le {f b c a} (d:TxtAt f b c a):a.length<=895:=by
 obtain ⟨j,g,i,e⟩:=d;exact e
def aDb {a b} (c:IsSuf (aG a) b):(aH (aG a) b).length=a.length+1:=by rw [bY,c.len,aO]
def aDz {Bw gl t A0 m0} (c) {B ss} (a) (i:iV ss=a) {w} (f:TxtAt w Bw gl t) (m:Rd w B 1 A0 m0 (ss.map slV)) (o:∀b∈ss,Rd w B 1 b.A b.n (b.l.map bv)) (hB:B<=w.heap.size) (j:m0<=1000000) (k:a.length<=1000000):
 Calls prog 26 #[gl,.slice A0 m0 c] w λe p=>e=.returned (.int .i64 (occ (aG t) (dQ a):Nat))/\VB Bw w p:=by
 obtain ⟨r,d,g,q⟩:=f;have:=aBR c i rfl g (aDb d) oM (dR (eX t)) m o hB j k;rw [aJk d] at this;exact this
def aO1 {m:Option Addr} {e d a:Nat} (j:Nat) {O:Nat} {g:List Nat} {b:World} (G:Rd b O 1 m e (g.map sv)) (hB:O<=b.heap.size) (ao:e<=d) (v:a<=e) (a0:e<=1000):
 Calls prog 83 #[.slice m e d,(a:Int),(j:Int)] b λC a4=>∃N Q,C=.returned (.slice N (e+1) Q)/\Made a4 b.heap.size 3 1 N (e+1) Q ((g.take a++j::g.drop a).map sv)/\Below b.heap.size b a4:=by
 obtain ⟨K,x,I,z,J⟩:=info_parts gI;have a3:∀b,(sizeOf 3).run prog b=.ok 1 b:=λb=>by simp [sizeOf,typeInfo,x,z]
 have U:=G.aj (cap:=d) v;have V:=G.cut (cap:=d) v ao;rw [zBl,<-zDw] at U;rw [zBl,<-zEb] at V;have aC:=jH (P:=prog) 27 3 1 underlying27 a3 m e d a oM;have L:=iC (P:=prog) 27 3 1 underlying27 a3 m e d a v;have a7:=L;clear G L;go_enter func83,ntmps83;go_wp2_with (at_builtin;refine bE _ rfl (.tmp 8) (.tmp 11) _ rfl b.heap.size 3 K (.int .i64 0) 1 8 underlying27 x I z J rfl dC (.slice (some b.heap.size) 0 0) 0 [] rfl (kX b 3 1) b.heap.size (dH m d 0 1) a d _ rfl ((U.mono hB).alloc nL _) (tD _) zx oM zs ?_;intro aD w1 F W ai);have R:=aX ((kg b.heap.size b).alloc nL _) (kX b 3 1) W zs;rw [zBi,zDH] at F;obtain ⟨n,o,rfl,Z⟩:=aR F;have Y:∀c,(Value.slice n a o).ownBlock=some c->b.heap.size<=c/\c < w1.heap.size:=λc T=>Z.own.lt c T;have a2:=R.size;clear W ai Z;go_wp2_with fail;refine wp_region_any kR<|cQ 7 [13,14,15,16,17,18,19] (λc=>(Value.slice n a o).ownBlock=some c) 3 [3] (λM B=>B.ownsRow b.heap.size 3 1 M (a+1) ((g.take a).map sv++ [.int .i64 j])) [is (.slice n a o),is (j:Int),pT (λc=>(Value.slice n a o).ownBlock=some c) 3 #[(j:Int)] λD=>.slice (some ⟨D,0,none⟩) 1 1,cO,is (.slice m e d),is (a:Int),is (.slice (dH m d a 1) (e - a) (d - a))] _ rfl dC kR kR kR (F) (λB aH t _ am=>aP t am) (λ_ _ _ af a=>aP af a) tA3 ?_ ?_
 .refine bB<|pH3 7 (.slice n a o)<|pH3 2 (.int .i64 j)<|sC3 (λ_ r k _ _ _ _ l _ _ _ q=>?_) ?_
  .replace k:Keep (λc=>(Value.slice n a o).ownBlock=some c) w1 r:=kD k;have aw:_=_:=l 1 14 kR rfl;go_simp;exact q _ _ (aE (bR.alloc nL _)) ⟨_,rfl,kd _ _ _,λt=>by have:=(Y _ t).2;have:=k.size;omega⟩
  refine sC3 (λw r k ag _ _ _ l _ _ ah q=>?_) ?_;replace k:Keep (λc=>(Value.slice n a o).ownBlock=some c) w1 r:=kD k;have aq:=ag rfl;have aa:_=_:=l 0 13 kR rfl;have av:(pT (λc=>(Value.slice n a o).ownBlock=some c) 3 #[(j:Int)] λD=>.slice (some ⟨D,0,none⟩) 1 1) (w (.tmp 15)) r:=l 2 15 kR rfl;obtain ⟨ae,ab,ak,aA⟩:=av;subst ah;have au:b.heap.size<=r.heap.size:=zAk a2 k.size;refine fK r (.tmp 13) (.tmp 15) _ rfl b.heap.size 3 K (.int .i64 0) 1 8 underlying27 x I z J rfl dC (.slice n a o) a ((g.take a).map sv) aa aq r.heap.size (some ⟨ae,0,none⟩) 1 1 [.int .i64 j] ab (aGt ak) (by simp [Value.oneCell']) zx oM au ?_;intro aF s ap u az;exact q _ _ (aW ⟨u.os,u.tape,u.output,u.size,λa v a0=>u.block a v (λC=>a0 C.symm)⟩) ap;refine pH3 0 (.slice m e d)<|pH3 1 (.int .i64 a)<|sC3 (λ_ _ _ _ _ _ _ l _ _ _ q=>?_) ?_
  .have ax:_=_:=l 4 17 kR rfl;have ay:_=_:=l 5 18 kR rfl;have L:=a7;go_simp;exact kq q rfl
  exact aB
 .intro w s p k l;replace k:Keep (λc=>(Value.slice n a o).ownBlock=some c) w1 s:=kD k;have A:(λM B=>B.ownsRow b.heap.size 3 1 M (a+1) ((g.take a).map sv++ [.int .i64 j])) (w (.tmp 16)) s:=l 3 16 dC rfl;have ad:w (.tmp 19)=.slice (dH m d a 1) (e - a) (d - a):=l 6 19 dC rfl;simp only [zqq];rw [ad];clear l;obtain ⟨a5,a8,ac,_,_⟩:=aZ A;rw [ac] at A⊢;have E:Below b.heap.size b s:=R.trans (k.e a2 (λc T t=>by have:=(Y _ t).1;omega));have ar:=(V.mono hB).below E;have H:=E.size;change wpAny prog Region.Mode.any _ _ (2+p) (bT 7 9) _ s;rw [show 2+p=p+1+1 by omega];refine aY (f:=p+1) (i:=7) kR ?_;refine bJ rfl rfl<|fK s (.tmp 16) (.tmp 19) _ rfl b.heap.size 3 K (.int .i64 0) 1 8 underlying27 x I z J rfl dC (.slice a5 (a+1) a8) (a+1) ((g.take a).map sv++ [.int .i64 j]) rfl A s.heap.size (dH m d a 1) (e - a) (d - a) ((g.drop a).map sv) rfl (ar.mono H) (tD _) zx oM H ?_;intro aG aI y X aj;have al:=aX E A X H;have a1:a+1+(e - a)=e+1:=oM;rw [a1] at y;have S:(g.take a).map sv++ [.int .i64 j]++(g.drop a).map sv=(g.take a++j::g.drop a).map sv:=(by simp [sv]);rw [S] at y;obtain ⟨a6,a9,rfl,an⟩:=aR y;clear y X aj S a1;refine aY (f:=p) (i:=8) kR ?_;refine bJ rfl rfl ?_;generalize q:wpAny prog _ _ _ p _=K5;go_simp;subst q;refine bG kR ?_;go_wp2;go_ret;exact ⟨a6,a9,rfl,an,al⟩
structure Part (l:List Nat) (x j:Nat) (L:List Nat):Prop where
 perm:L.Perm (List.range' x j)
 B:L.Pairwise (sufLt l)
def Part.len {d a e b} (c:Part d e b a):a.length=b:=by simpa using c.perm.length_eq
def Part.mem {g c b d a} (e:Part g b d c) (f:a∈c):b<=a/\a < b+d:=by
 have:=e.perm.mem_iff.1 f;rw [List.mem_range'_1] at this;exact this
def Part.rel {d a j i c b} (e:Part d j i a) (f:c < b) (g:b < a.length):sufLt d (a[c]' oM) a[b]:=zAr.1 e.B c b oM g f
def Part.put {d b e j c} (k:Part d (e+1) j b) (t:e < d.length) (u:e+1+j<=d.length) (v:c<=b.length) (r:∀a (g:a < b.length),a < c->sufLt d b[a] e) (s:∀a (g:a < b.length),c<=a->¬sufLt d b[a] e):
 Part d e (j+1) (b.take c++e::b.drop c):=by
 constructor;rw [List.range'_succ];refine zFD.trans (List.Perm.cons e ?_);rw [zAu];exact k.perm;have i:=k.B;rw [<-zAu c b,zEx] at i;rw [zEx];refine ⟨i.1,zEf.2 ⟨λo f=>?_,i.2.1⟩,λq p o f=>?_⟩;obtain ⟨a,g,rfl⟩:=zBo.1 f;rw [zAw] at g;rw [zED];have w:=k.mem (zBj (l:=b) (n:=c+a) oM);rcases sufLt.dk t (by omega:b[c+a]' oM < d.length) oM with m | m;exact m;exact absurd m (s (c+a) oM oM);rcases zDf.1 f with rfl | f;obtain ⟨a,g,rfl⟩:=zBo.1 p;rw [zAj] at g;rw [zEC];exact r a oM oM;exact i.2.2 q p o f
def yK (i:List UInt8) (e:Nat) (a:World) (g:Ending) (f:World):Prop:=∃b d c,g=.returned (.slice b (e+1) d)/\IsSuf (aG i) c/\Made f a.heap.size 3 1 b (e+1) d (c.map sv)/\Below a.heap.size a f
def qQ {i b} (p) (G:i.length=b) (an:b<=900):
 Calls prog 33 #[.string ⟨i.toArray⟩] p (yK i b p):=by
 have ar:(⟨i.toArray⟩:ByteArray).size=b:=(rW i).trans G;have D:(aG i).length=b+1:=by rw [aO,G]
 go_enter func33,ntmps33;go_wp2_with fail;go_loopw [3,4] (λa9 I wr=>∃(a:Nat) (e:List Nat) (t:Option Addr) (v:Nat),a<=b+1/\a9=.slice t a v/\I=.int .i64 ((b:Int) -a)/\Part (aG i) (b+1 - a) a e/\Made wr p.heap.size 3 1 t a v (e.map sv)/\Below p.heap.size p wr) (λ_ I _=>(intOf I+1).toNat)
 case atStart=>exact ⟨0, [],none,0,by omega,rfl,by simp,⟨by simp,List.Pairwise.nil⟩,⟨ki _ _ _ _,Rd.nil _ _ _ _,zAs _,by unfold maxLen;omega⟩,kg _ _⟩
 case round=>
  obtain ⟨a,e,t,v,ah,rfl,rfl,k,E,x⟩:=hrel;by_cases a3:a<=b
  .obtain ⟨j,o⟩:=eqx (b - a);rw [show b+1 - a=j+1 by omega] at k;have T:(b:Int) -a=j:=oM;rw [T];have ao:(0:Int)<=j:=oM;have B:=k.len;obtain ⟨m,Z⟩:∃m,m=wr:=⟨_,rfl⟩;subst Z;go_wp2_with fail;go_loopw [5,6] (λA u wr=>∃c f l:Nat,c<=f/\f<=a/\A=.int .i64 c/\u=.int .i64 f/\(∀g (n:g < e.length),g < c->sufLt (aG i) e[g] j)/\(∀g (n:g < e.length),f<=g->¬sufLt (aG i) e[g] j)/\wr=m.drewN l) (λA u _=>(intOf u - intOf A).toNat)
   case atStart=>exact ⟨0,a,0,by omega,by omega,rfl,rfl,λg n w=>by omega,λg n w=>by have:=B;omega,rfl⟩
   case round=>
    obtain ⟨c,f,l,aj,C,rfl,rfl,L,w,rfl⟩:=hrel;by_cases a2:c < f
    .obtain ⟨d,O⟩:=eqx ((c+f)/ 2);have ak:(c:Int) < f:=oM;have ac:IntKind.i64.wrap (c+f)=(c:Int)+f:=zu;have ad:((c:Int)+f).tdiv 2=(d:Int):=(by rw [<-O];exact (Int.ofNat_tdiv (c+f) 2).symm);have ae:IntKind.i64.wrap d=(d:Int):=zu;have Q:d < a:=oM;have F:d < e.length:=(by rw [B];exact Q);obtain ⟨u,ap,aq,Y,ag,S,z⟩:=(E.rd.drewN l).get Q;subst Y;rw [zAf,zAa F] at S;cases S;unfold sv at z;have a5:=k.mem (zBj F);obtain ⟨aa,H⟩:=eqx (e[d]);rw [H] at z a5;have ab:=z;clear z;have am:c<=d:=oM;have al:d < f:=oM;clear O;go_wp2_with fail;refine (aLo aa j _ G oM (zj o) (zj o) oM).mono ?_;rintro W V ⟨a8,rfl,R,U,rfl⟩;cases a8 with
     | true=>
      go_wp2_with fail;go_roundw
      case rel=>refine ⟨d+1,f,l+U,by omega,C,by go_num,rfl,λg n a1=>?_,w,rfl⟩;have s:sufLt (aG i) e[d] j:=(by rw [H];exact R.1 (by first | rfl | trivial));rcases zBe g d with q | q;exact (k.rel q F).trans s;obtain rfl:g=d:=oM;exact s
      case measure=>exact zr
     | false=>
      go_wp2_with fail;go_roundw
      case rel=>refine ⟨c,d,l+U,by omega,by omega,rfl,by go_num,L,λg n a1 M=>?_,rfl⟩;have s:¬sufLt (aG i) e[d] j:=(by rw [H];intro X;have:=R.2 X;cases this);rcases zBe d g with q | q;exact s ((k.rel q n).trans M);obtain rfl:g=d:=oM;exact s M
      case measure=>exact zr
    .obtain rfl:c=f:=oM;have a6:=k.put (by rw [D];have:=o;omega) (by rw [D];have:=o;omega) (by rw [B];exact C) L w;have y:Below m.heap.size m (m.drewN l):=km bR l;have P:=E.below y;clear a2;go_wp2_with fail;refine (aO1 j P.rd nL P.cap C oM).mono ?_;rintro W V ⟨J,K,rfl,r,N⟩;have a0:=x.trans ((y.trans (N.mono y.size)).mono x.size);have a4:Made V p.heap.size 3 1 J (a+1) K ((e.take c++j::e.drop c).map sv):=⟨cG r.own (zAk x.size y.size),r.rd,r.cap,r.max⟩;clear r N;have af:IntKind.i64.wrap (j - 1)=(b:Int) -(a+1:Nat):=(by rw [wI0];have:=T;omega);go_wp2_with fail;go_roundw
     case rel=>exact ⟨a+1,_,J,K,by omega,rfl,rfl,by rw [show b+1 -(a+1)=j by have:=o;omega];exact a6,a4,a0⟩
     case measure=>have:=o;simp [intOf];omega
  .obtain rfl:a=b+1:=oM;have ai:¬(0:Int)<=b -(b+1:Nat):=oM
   have a7:IsSuf (aG i) e:=⟨by
    have:=k.perm;rw [show b+1 -(b+1)=0 by omega] at this;rw [D,List.range_eq_range'];exact this,k.B⟩
   clear k a3;go_wp2_with fail;go_ret;exact ⟨t,v,e,rfl,a7,E,x⟩
end Go.Proofs.YtknjfpcdhdmghaaGreatDoor
