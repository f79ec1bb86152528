/- Lemmas of the walk. Conditions: each its own. -/
import Derived.Test.YtnmapianpjamnaaGreatDoorPk17
import Derived.Test.YtnmapianpjamnaaGreatDoorPk18
import Derived.Test.YtnmapianpjamnaaGreatDoorProg
import Derived.Test.YtnmapianpjamnaaGreatDoorShl
import Derived.Test.YtnmapianpjamnaaGreatDoorSht
set_option linter.all false
set_option maxRecDepth 100000
set_option maxHeartbeats 4000000
open Go.Proofs.Tryz
namespace Go.Proofs.YtnmapianpjamnaaGreatDoor
open Go.RowKit
def oS (e gk:Nat) (a:List Nat) (d:Nat) (b:World) (g:WalkAt b e gk a) (k:d < a.length):
 Calls prog 199 #[gk,(d:Int)] b fun f i=>f=.returned (.bool true)/\b=i:=by
 obtain ⟨l,c⟩:=eqx a.length;rw [c] at k;have m:(d:Int) < (l:Int):=oM;obtain ⟨Hn,j⟩:=hqq2 c g;clear c g;go_enter func199,ntmps199;go_wp2_with fail;refine (mU e gk a b j.out).mono ?_;rintro f i ⟨rfl,rfl⟩;rw [Hn.out];go_wp2_with fail;go_ret;exact ⟨rfl,rfl⟩
def lG (e gk:Nat) (c:List Nat) (f b:Nat) (m:World) (E:WalkAt m e gk c) (q:c[f]?=some b) (x:∀A∈c,A < 257) (z:c.length<=1000):
 Calls prog 163 #[gk,(f:Int)] m fun i a4=>i=.returned (.int .i64 ((dZ c b f:Nat):Int))/\VB e m a4:=by
 have K:=(zAc.1 q).1;have M:b < 257:=x _ (zAd q);have I:=E;obtain ⟨o,ae,p,G,Z⟩:=E;have W:=p.cell 0;have ah:=p.lt;obtain ⟨l,y⟩:=eqx (dZ c b f);obtain ⟨t,r⟩:∃a3,c.countP (fun A=>decide (A < b))=a3:=⟨_,rfl⟩;obtain ⟨u,s⟩:=eqx ((c.take f).count b);have L:t+u=l:=by rw [<-r,<-s,<-y];rfl
 have af:t<=1000:=by rw [<-r];exact zAk zBh z
 have ag:u<=1000:=by rw [<-s];exact zAk zBu (by rw [zAj];omega)
 rw [y];obtain ⟨B,N,C,v,R,D,w,T,U⟩:=hqq9 I p G K q x z r s;have S:=lhd L;clear I p G Z K q x z r s y L;go_enter func163,ntmps163;go_wp2_with fail;refine (oS e gk c f m B.out v.out).mono ?_;rintro i w1 ⟨rfl,rfl⟩;go_wp2_with fail;refine (mT e o c f b m C.out v.out (zAc.1 R.out).2 D.out w.out).mono ?_;rintro i n ⟨rfl,k⟩;have J:=B.out.vis k.1;have F:=k.1.bk N.out dC dC;have H:=C.out.vis k.1;obtain ⟨Q,O,P,V⟩:=hqq4 J F H k;clear J F H k W;go_wp2_with fail;refine wp_region_any kR ?_;refine cX [20,21,22,23,24,25,26,27,28,29,30,4] (VB e) (Vs [is gk,is (b:Int),is (t:Int),is gk,is gk,is gk,is o,is (f:Int),is (b:Int),is (u:Int),is (l:Int),is (l:Int)]) _ _ rfl kR vR (fun _ _=>VisK.trans) (fC tA0) ?_ ?_
 · refine bN ?_;refine pH 0 (.pointer (some gk)) ?_;refine pH 5 (.int .i64 (b:Int)) ?_;refine sC (fun _ g a _ _ _ d _ _ _ j=>?_) ?_
   · have a7:_=_:=d 0 20 kR rfl;have a8:_=_:=d 1 21 kR rfl;replace a:(VB e) n g:=bD a;go_simp;refine (jN e gk c b g (Q.out.vis a.1) M w.out).mono ?_;rintro i a6 ⟨rfl,a0⟩;rw [T.out];exact j _ _ (VisK.of_below a0) rfl
   refine pH 0 (.pointer (some gk)) ?_;refine pV 3 23 ?_;refine pV 4 24 ?_;refine pL 5 25 (fun g a=>have a:(VB e) n g:=bD a;(((a.1.bk O.out dC dC).cell 0).trans rfl:g.cell? gk=some (.pointer (some o)))) ?_;refine pH 1 (.int .i64 (f:Int)) ?_;refine pH 5 (.int .i64 (b:Int)) ?_;refine sC (fun _ g a _ _ _ d _ _ _ j=>?_) ?_
   · have aa:_=_:=d 6 26 kR rfl;have ab:_=_:=d 7 27 kR rfl;have ac:_=_:=d 8 28 kR rfl;replace a:(VB e) n g:=bD a;go_simp;refine (lF e o c f b g (P.out.vis a.1) M (zCi v.out) D.out w.out).mono ?_;rintro i a6 ⟨rfl,a2⟩;rw [U.out];exact j _ _ a2 rfl
   refine sC (fun _ _ _ _ _ _ d _ _ _ j=>?_) ?_
   · have a9:_=_:=d 2 22 kR rfl;have ad:_=_:=d 9 29 kR rfl;have ai:IntKind.i64.wrap ((t:Int)+(u:Int))=(l:Int):=(by rw [IntKind.wrap_i64];have:=S.out;omega);go_simp;exact j _ _ vR rfl
   refine pV 10 30 ?_;exact aP
 · intro Y a5 a d;replace a:(VB e) n a5:=bD a;have X:Y (.tmp 4)=.int .i64 (l:Int):=d 11 4 rfl;simp only [zqq];rw [X];clear d;have a1:=V.out.trans a;go_wp2_with fail;go_ret;exact ⟨rfl,a1⟩
structure LiveG (w:World) (Bw gl gk gp rate n:Nat) (L:List Nat) (pr:List (Nat×Nat)):Prop where
 blk:∃mv:Int,Bk w gl 109 #[gk,gp,(rate:Int),.int .i64 mv]
 walk:WalkAt w Bw gk L
 perm:PermR w gp n n pr
def LiveG.vis {k w':World} {c e gk f j g:Nat} {d:List Nat} {i:List (Nat×Nat)} (a:LiveG k c e gk f j g d i) (b:Vis k w'):LiveG w' c e gk f j g d i:=by
 obtain ⟨m,l⟩:=a.blk;exact ⟨⟨m,b.bk l dC dC⟩,a.walk.vis b,a.perm.vis b⟩
def LiveG.lvw {e:World} {a c gk f k i:Nat} {b:List Nat} {j:List (Nat×Nat)} (d:LiveG e a c gk f k i b j):LvW e a c b:=by
 obtain ⟨l,g⟩:=d.blk;exact ⟨gk,_,_,_,g,d.walk⟩
def LiveG.mono {j:World} {b B' d gk e i f:Nat} {c:List Nat} {g:List (Nat×Nat)} (a:LiveG j b d gk e i f c g) (k:B'<=b):LiveG j B' d gk e i f c g:=⟨a.blk,a.walk.mono k,a.perm⟩
def LiveG.lt {b:World} {c a gk e j g:Nat} {d:List Nat} {i:List (Nat×Nat)} (f:LiveG b c a gk e j g d i):a < b.heap.size:=f.lvw.lt
def mO (a:List (Nat×Nat)):a=(List.range a.length).map fun c=>(aY a c,dM a c):=by
 apply List.ext_getElem?;intro d;rw [zAf];by_cases b:d < a.length;rw [zCh b,zAa b];unfold aY dM;rw [Option.map_some,zAb,zAa b];rfl;rw [zBg oM,zBg (by simpa using b)];rfl
def LiveAt.g {r:World} {d i gk j f:Nat} {o p q:Value} {c l m:Nat} {e:List Nat} {a:List (Nat×Nat)} {n:List Bool} (b:LiveAt r d i gk j f o p q c l m e a n) (u:a.Pairwise (fun s t=>s.1 < t.1)) (k:a.length<=1000):LiveG r d i gk j m l e a:=
 ⟨⟨0,b.blk⟩,b.walk,c,f,o,p,q,_,_,a,n, [],b.perm,rA a u,k,by rw [zCf];exact k,mO a⟩
def nX {rs:List Nat} {rate n:Nat} (e:n<=rs.length):∀a∈bG rs rate n,rs[a.1]?=some a.2:=fun a c=>by
 obtain ⟨d,b⟩:=iX c;rw [b,zAb,zAa (show a.1 < rs.length by omega)];rfl
def zK {c:List UInt8} {b:List Nat} {rate:Nat} (a:IsSuf (aE c) b):∃g∈bG b rate (c.length+1),g.2=0:=by
 obtain ⟨f,e,d⟩:=a.row (p:=0) (by rw [aK];omega);refine ⟨(f,0),(aAU _ _ _ _ _).2 ⟨?_,?_,Nat.zero_mod _⟩,rfl⟩;have:=a.len;rw [aK] at this;omega;rw [zAb,zAa e,d];rfl
def lO (j J gk U aZ:Nat) (e:List UInt8) (d:List Nat) (u:List (Nat×Nat)) (a7 c:Nat) (m:World) (K:LiveG m j J gk U aZ (e.length+1) (aL (aE e) d) u) (an:∀g∈u,d[g.1]?=some g.2) (l:IsSuf (aE e) d) (aS:e.length<=895) (Y:d[a7]?=some c):
 Calls prog 78 #[J,(c:Int)] m fun n b0=>n=.returned (.int .i64 (a7:Int))/\VB j m b0:=by
 have a0:d.length=e.length+1:=by rw [l.len,aK]
 have V:(aL (aE e) d).length=e.length+1:=by rw [dB,a0]
 have aU:c < e.length+1:=by have:=l.lt (zAd Y);rwa [aK] at this
 have a3:=tI l;obtain ⟨i,W⟩:=eqx e.length;have ao:∀a b:Nat,d[a]?=some (b+1)->∃t I,(aL (aE e) d)[a]?=some t/\dZ (aL (aE e) d) t a=I/\d[I]?=some b:=fun a b x=>by obtain ⟨M,af⟩:=zAc.1 x;have aM:b+1 < (aE e).length:=l.lt (zAd x);obtain ⟨I,ah,ag⟩:=l.row (p:=b) oM;have ak:=fV e;have aO:=tY ak M af (by rw [aK] at aM;omega);exact ⟨(aE e).getD b 0,I,zAc.2 ⟨_,aO⟩,lf l ak M ah af ag,zAc.2 ⟨ah,ag⟩⟩
 have a1:∀a b:Nat,d[a]?=some b->b<=e.length/\a<=e.length:=fun a b x=>by have k:=l.lt (zAd x);rw [aK] at k;have L:=(zAc.1 x).1;omega
 have ap:∀a,d[a]?=some c->a=a7:=fun a M=>yB l M Y;rw [W] at K;rw [W] at V aU aS a0 a3 a1;have b2:decide ((c:Int) < 0)=false:=by simp
 have aT:¬i < c:=oM;have b3:decide (i < c)=false:=zBx aT;obtain ⟨s,ax,av,ac,aw,ad,H⟩:=hqq7 K a3 an ao a1 ap V;have ab:=lhd (fY (gI e) (rs:=d));obtain ⟨b5,N⟩:=K.blk;have aA:=N.cell 0;have aB:=N.cell 1;have aP:=N.lt;clear K a3 an ao a1 ap V l Y W a0 N;go_enter func78,ntmps78;go_wp2_with fail;refine (cB j J _ i m s.out.lvw H.out oM).mono ?_;rintro n w1 ⟨rfl,rfl⟩;go_wp2_with fail;refine (cB j J _ i m s.out.lvw H.out oM).mono ?_;rintro n w1 ⟨rfl,rfl⟩;go_wp2_with fail;have a2:=pK U (i+1) (i+1) u c m s.out.perm;unfold mK at a2;refine a2.mono ?_;rintro n ar ⟨b8,rfl,G,ai⟩;clear a2;have a6:VB j m ar:=VisK.of_below ai;have L:=s.out.vis a6.1;obtain ⟨b6,O⟩:=L.blk;have aD:=O.cell 0;have aF:=O.cell 1;have aR:=O.lt;obtain ⟨au,ae⟩:=hqq2 L a6;clear ai a6 L aA aB aP O;rcases G with ⟨G,_⟩|⟨⟨b4,r⟩,aN,G,Z,_⟩
 · subst G;go_wp2_with fail;go_loopw [5,6] (fun g aa wr=>∃a f:Nat,c<=a/\a<=i/\d[f]?=some a/\g=.int .i64 (a:Int)/\aa=.int .i64 (f:Int)/\VB j m wr) (fun g _ _=>(intOf g).toNat)
   case atStart=>exact ⟨i,0,by omega,zAs _,ax.out,rfl,rfl,ae.out⟩
   case round=>
    obtain ⟨a,f,aV,aH,z,rfl,rfl,q⟩:=hrel;have k:=s.out.vis q.1;obtain ⟨aY,o⟩:=k.blk;have aC:=o.cell 0;have aQ:=o.lt;obtain ⟨w,P,v⟩:=hqq3 q k z;clear k q z o;by_cases aI:c < a
    · obtain ⟨b,y⟩:∃b,a=b+1:=⟨a - 1,by omega⟩;obtain ⟨t,a8,B,C,D⟩:=ac.out f b (by rw [<-y];exact v.out);have aG:IntKind.i64.wrap ((a:Int) - 1)=(b:Int):=(by rw [IntKind.wrap_i64];omega);obtain ⟨Q,R,S⟩:=hqq3 B C D;have X:c<=b:=oM;have aJ:b < a:=oM;clear B C D y;go_wp2_with fail;refine (lG j gk _ f t wr P.out.walk Q.out ab.out (by rw [H.out];omega)).mono ?_;rintro n b1 ⟨rfl,E⟩;rw [R.out];have F:=w.out.trans E;have T:=lhd F;clear E F;go_wp2_with fail;go_roundw
      case rel=>exact ⟨b,a8,X,by omega,S.out,by go_num,by first | rfl | trivial,T.out⟩
      case measure=>simp [intOf];omega
    · obtain rfl:a=c:=oM;have a4:=ad.out f v.out;subst a4;go_wp2_with fail;go_ret;exact ⟨rfl,w.out⟩
 · subst G;have Z:c<=r:=Z;have al:∃g∈u,g.2=r:=⟨_,aN,rfl⟩;have aW:decide ((r:Int)>=0)=true:=(by simp);go_wp2_with fail;have a5:=rZ U (i+1) (i+1) u r ar au.out.perm al;unfold vA at a5;refine a5.mono ?_;rintro n b7 ⟨a9,am,rfl,aj⟩;have A:=av.out _ am;have A:d[a9]?=some r:=A;have aq:=ae.out.below aj;obtain ⟨ay,az⟩:=hqq2 A aq;have aX:=(aw.out a9 r A).1;clear a5 am A aj aq al aD aF aR aW;go_wp2_with fail;go_loopw [5,6] (fun g aa wr=>∃a f:Nat,c<=a/\a<=i/\d[f]?=some a/\g=.int .i64 (a:Int)/\aa=.int .i64 (f:Int)/\VB j m wr) (fun g _ _=>(intOf g).toNat)
   case atStart=>exact ⟨r,a9,Z,aX,ay.out,rfl,rfl,az.out⟩
   case round=>
    obtain ⟨a,f,aV,aH,z,rfl,rfl,q⟩:=hrel;have k:=s.out.vis q.1;obtain ⟨aY,o⟩:=k.blk;have aC:=o.cell 0;have aQ:=o.lt;obtain ⟨w,P,v⟩:=hqq3 q k z;clear k q z o;by_cases aI:c < a
    · obtain ⟨b,y⟩:∃b,a=b+1:=⟨a - 1,by omega⟩;obtain ⟨t,a8,B,C,D⟩:=ac.out f b (by rw [<-y];exact v.out);have aG:IntKind.i64.wrap ((a:Int) - 1)=(b:Int):=(by rw [IntKind.wrap_i64];omega);obtain ⟨Q,R,S⟩:=hqq3 B C D;have X:c<=b:=oM;have aJ:b < a:=oM;clear B C D y;go_wp2_with fail;refine (lG j gk _ f t wr P.out.walk Q.out ab.out (by rw [H.out];omega)).mono ?_;rintro n b1 ⟨rfl,E⟩;rw [R.out];have F:=w.out.trans E;have T:=lhd F;clear E F;go_wp2_with fail;go_roundw
      case rel=>exact ⟨b,a8,X,by omega,S.out,by go_num,by first | rfl | trivial,T.out⟩
      case measure=>simp [intOf];omega
    · obtain rfl:a=c:=oM;have a4:=ad.out f v.out;subst a4;go_wp2_with fail;go_ret;exact ⟨rfl,w.out⟩
def TpAt (j:World) (e f:Nat) (a:List UInt8) (i:Nat):Prop:=
 ∃d gk g c,IsSuf (aE a) d/\LiveG j e f gk g i (a.length+1) (aL (aE a) d) c/\(∀b∈c,d[b.1]?=some b.2)/\(∃b∈c,b.2=0)/\a.length<=895
def TpAt.vis {e w':World} {a b:Nat} {d:List UInt8} {c:Nat} (g:TpAt e a b d c) (l:Vis e w'):TpAt w' a b d c:=by
 obtain ⟨n,gk,f,m,i,j,k⟩:=g;exact ⟨n,gk,f,m,i,j.vis l,k⟩
def VB.grow {l:Nat} {k w1 m:World} (b:VB l k w1) (a:Below k.heap.size w1 m):VB l k m:=
 ⟨⟨a.os.trans b.1.os,a.tape.trans b.1.tape,a.output.trans b.1.output,zAk b.1.size a.size,fun d c i=>by
   rcases b.1.block d c i with n |⟨e,j,f,g⟩|⟨e,j,f,g⟩;exact .inl ((a.block d c).trans n);exact .inr (.inl ⟨e,j,f,g.below a c⟩)
   · exact .inr (.inr ⟨e,j,f,g.below a c⟩)⟩,
  ⟨a.os.trans b.2.os,a.tape.trans b.2.tape,a.output.trans b.2.output,zAk b.2.size a.size,fun d c i=>(a.block d c).trans (b.2.block d c i)⟩⟩
def TpAt.mono {d:World} {B B' a:Nat} {c:List UInt8} {b:Nat} (f:TpAt d B a c b) (k:B'<=B):TpAt d B' a c b:=by
 obtain ⟨m,gk,e,l,g,i,j⟩:=f;exact ⟨m,gk,e,l,g,i.mono k,j⟩
def yC (a:World) (c:TypeId) (b:Array Value) (d:Nat×Nat) (e:Nat) (f:b.size=e):Rd (a.alloc (.cells b c d)) (a.heap.size+1) 1 (some ⟨a.heap.size,0,none⟩) e b.toList:=by
 refine ⟨by simp [f],fun _=>⟨_,0,rfl,by omega,fun i j g=>?_⟩⟩;rw [zBi,cell_of_row (a.alloc (.cells b c d)) a.heap.size i b c d (heap_alloc_new a _)];simpa using g
def lT (b:World) (a:Array Value) (d c:Nat):(convert 22 22 (.slice (some b.heap.size) d c)).run prog (b.alloc (.cells a 5))=.ok (.slice (some b.heap.size) d c) (b.alloc (.cells a 5 (a.size,a.size+1))):=
 Lib.run_convert_bytes_const (P:=prog) b 22 5 a d c underlying22 underlying5
def vU (b:World) (e:Obj) (a:Array Value) (d c:Nat):(convert 22 22 (.slice (some ⟨b.heap.size+1,0,none⟩) d c)).run prog ((b.alloc e).alloc (.cells a 5))=.ok (.slice (some ⟨b.heap.size+1,0,none⟩) d c) ((b.alloc e).alloc (.cells a 5 (a.size,a.size+1))):=by
 have:=lT (b.alloc e) a d c;rw [World.size_alloc] at this;exact this
def zS (a:World) (c:Array Value) (e:Nat×Nat) (d:List UInt8) (b:Nat) (i:c.toList=d.map bv) (k:d.length=b):
 Rd ((a.alloc (.cells c 5 e)).alloc (.cells #[.slice (some a.heap.size) b b] 22)) (a.heap.size+2) 1 (some ⟨a.heap.size+1,0,none⟩) 1 ([(⟨some ⟨a.heap.size,0,none⟩,b,b,d⟩:Sl)].map slV)/\
 (∀f∈ [(⟨some ⟨a.heap.size,0,none⟩,b,b,d⟩:Sl)],Rd ((a.alloc (.cells c 5 e)).alloc (.cells #[.slice (some a.heap.size) b b] 22)) (a.heap.size+2) 1 f.A f.n (f.l.map bv)):=by
 constructor;have:=Rd.new_ (a.alloc (.cells c 5 e)) 22 1 #[.slice (some a.heap.size) b b] rfl;rw [World.size_alloc] at this;exact this;intro f j;simp at j;subst j;have g:=yC a 5 c e b (by rw [<-Array.length_toList,i];simp [k]);rw [i] at g;exact (g.alloc (by simp) _).mono oM
def iH (b:List Nat) (c a:Nat):Array Value:=((b.take a).map sv++List.replicate (c - a) (Value.int .i64 0)).toArray
def wU (b:List Nat) (a:Nat):iH b a 0=Array.replicate a (Value.int .i64 0):=by
 unfold iH;apply Array.ext';simp
def aAd (a:List Nat) (b:Nat) (c:a.length=b):iH a b b=(a.map sv).toArray:=by
 unfold iH;rw [zAg oM,Nat.sub_self];simp
def wV (b:List Nat) (a c:Nat) (d:b.length=a) (e:c<=a):(iH b a c).size=a:=by
 unfold iH;simp;omega
def aAc {b:List Nat} {c a e:Nat} (i:b.length=c) (d:b[a]?=some e):(iH b c a).setIfInBounds a (.int .i64 (e:Int))=iH b c (a+1):=by
 have j:=(zAc.1 d).1;apply Array.ext';unfold iH;rw [Array.toList_setIfInBounds,zAv,d];have f:c - a=(c -(a+1))+1:=oM;rw [f,List.replicate_succ];have g:((b.take a).map sv).length=a:=by rw [zBc,zAj];omega
 show List.set ((b.take a).map sv++(Value.int .i64 0::List.replicate (c -(a+1)) (Value.int .i64 0))) a _=_;rw [List.set_append_right _ _ oM,g,Nat.sub_self,zAz,zCk];rfl
def fL (d:World) (f:Nat) (a:List Nat) (g:Ending) (e:World):Prop:=∃b c,g=.returned (.slice b a.length c)/\Made e d.heap.size 3 1 b a.length c (a.map sv)/\VB f d e
def uQ (f g:Nat) (d:List Nat) (b:World) (D:WaveAt b f g d) (E:∀a5∈d,a5 < 257) (J:d.length<=1000):
 Calls prog 218 #[g] b (fL b f d):=by
 have P:=D;obtain ⟨a1,s,m,i,a4⟩:=D;obtain ⟨c,r⟩:=eqx d.length;rw [r] at i;have a0:b.cell? ⟨g,9,none⟩=some (.int .i64 (c:Int)):=(i.cell 9).trans (aT s c m).2.2.2.2.2.2.2.2.2.1;have C:b.cell? ⟨g,10,none⟩=some (.int .i64 m):=(i.cell 10).trans (aT s c m).2.2.2.2.2.2.2.2.2.2;have ac:=i.lt;have a3:=hD c oM;obtain ⟨Z,U,T,e,Hn⟩:=hqq5 P i E r J;rw [r] at J;clear P i E r a4;unfold fL;go_enter func218,ntmps218;go_wp2_with fail;have G:Bk (b.alloc (.cells (Array.replicate c (.int .i64 0)) 3)) b.heap.size 3 (iH d c 0):=by rw [wU];exact Bk.new _ _ _
 have M:VB f b (b.alloc (.cells (Array.replicate c (.int .i64 0)) 3)):=vR.alloc _;go_loopw [19] (fun y wr=>∃a:Nat,a<=c/\y=.int .i64 (a:Int)/\Bk wr b.heap.size 3 (iH d c a)/\VB f b wr) (fun y _=>c -(intOf y).toNat)
 case atStart=>exact ⟨0,zAp _,rfl,G,M⟩
 case round=>
  obtain ⟨a,ab,rfl,F,v⟩:=hrel;clear G M a3 a0 C;have ad:=v.1.size;obtain ⟨z,o⟩:=hqq2 F v;clear F v;by_cases u:a < c
  · obtain ⟨l,L⟩:∃l,d[a]?=some l:=⟨_,zAa (by rw [e.out];exact u)⟩;have A:=lhd L;clear L;go_wp2_with fail;refine (mT f g d a l wr (Z.out.vis o.out.1) (by rw [e.out];exact u) (zAc.1 A.out).2 T.out Hn.out).mono ?_;rintro a6 S ⟨rfl,w⟩;have k:=w.1.bk z.out dC dC;have x:=o.out.trans w;have aa:=k.lt;have a8:=k.frozen a;have t:=k.set a (.int .i64 (l:Int));rw [aAc e.out A.out] at t;have a2:∃Q,S.cell? ⟨b.heap.size,a,none⟩=some Q:=⟨_,(k.cell a).trans (zAq (by rw [wV d c a e.out oM];exact u))⟩;obtain ⟨Q,ae⟩:=a2;have N:VB f b (S.setCell ⟨b.heap.size,a,none⟩ (.int .i64 (l:Int))):=⟨Vis.fresh x.1 (p:=⟨b.heap.size,a,none⟩) nL _,Keep.setCell x.2 (p:=⟨b.heap.size,a,none⟩) (.inr nL) _⟩;obtain ⟨V,X⟩:=hqq2 t N;clear k t w x N;go_wp2_with fail;go_roundw
    case rel=>exact ⟨a+1,by omega,by go_num,V.out,X.out⟩
    case measure=>simp [intOf];omega
  · obtain rfl:a=c:=oM;have q:=z.out;rw [aAd d a e.out] at q;obtain ⟨R,j⟩:=o.out.1.waveC U.out;have C:wr.cell? ⟨g,10,none⟩=some (.int .i64 R):=(j.cell 10).trans (aT s a R).2.2.2.2.2.2.2.2.2.2;have a7:=j.frozen 10;have a9:=j.lt;have O:=o.out.trans (VB.set_wave j a1 m);have K:=Bk.ne q j dC;have H:=q.far (p:=⟨g,10,none⟩) K (.int .i64 m);have I:=wO (B:=b.heap.size) (n:=a) H nL (by rw [zBc];exact e.out) (by unfold maxLen;omega);obtain ⟨W,Y⟩:=hqq2 I O;clear q j O H I K;go_wp2_with fail;go_ret;exact ⟨_,_,by rw [e.out];rfl,by rw [e.out];exact W.out,Y.out⟩
def uS (d gk:Nat) (a:List Nat) (c:World) (q:WalkAt c d gk a) (s:∀t∈a,t < 257) (i:a.length<=1000):
 Calls prog 160 #[gk] c (fL c d a):=by
 obtain ⟨p,w,e,f,r⟩:=q;have u:=e.cell 0;have b:=uQ d p a c f s i;unfold fL at b⊢;obtain ⟨x,j⟩:=eqx a.length;rw [j] at b⊢;clear e f r j i;go_enter func160,ntmps160;go_wp2_with fail;refine b.mono ?_;rintro v y ⟨l,o,rfl,g,k⟩;obtain ⟨m,n⟩:=hqq2 g k;clear b g k;go_wp2_with fail;go_ret;exact ⟨l,o,rfl,m.out,n.out⟩
def sF (d f gk s q u:Nat) (a:List Nat) (n:List (Nat×Nat)) (c:World) (e:LiveG c d f gk s u q a n) (t:∀v∈a,v < 257) (j:a.length<=1000):
 Calls prog 75 #[f] c (fL c d a):=by
 obtain ⟨y,g⟩:=e.blk;have w:=g.cell 0;have b:=uS d gk a c e.walk t j;clear g;unfold fL at b⊢;obtain ⟨z,k⟩:=eqx a.length;rw [k] at b⊢;clear e k j;go_enter func75,ntmps75;go_wp2_with fail;refine b.mono ?_;rintro x A ⟨m,r,rfl,i,l⟩;obtain ⟨o,p⟩:=hqq2 i l;clear b i l;go_wp2_with fail;go_ret;exact ⟨m,r,rfl,o.out,p.out⟩
def rM {a:List Nat} {c b:Nat} (d:a[c]?=some b):(a.take c).count b < a.count b:=by
 have e:a.count b=(a.take (c+1)).count b+(a.drop (c+1)).count b:=by rw [<-zCb,zAu]
 have f:(a.take (c+1)).count b=(a.take c).count b+1:=by rw [zAv,d,zCb];simp
 omega
def aBd {a:List UInt8} {b:List Nat} (n:IsSuf (aE a) b) {e m d:Nat} {c:UInt8} (p:b[e]?=some (d+1)) (q:b[m]?=some d) (i:a[d]?=some c):
 (aL (aE a) b)[e]?=some (c.toNat+1)/\dZ (aL (aE a) b) (c.toNat+1) e=m:=by
 obtain ⟨j,k⟩:=zAc.1 p;obtain ⟨r,s⟩:=zAc.1 q;have l:=(zAc.1 i).1;have o:(aE a).getD d 0=c.toNat+1:=by unfold aE nS;rw [zAb,zAn (by simpa using l),zAf,i];rfl
 have f:=lf n (fV a) j r k s;have g:=tY (fV a) j k l;rw [o] at f g;exact ⟨zAc.2 ⟨_,g⟩,f⟩
def jM (j gk:Nat) (a:List Nat) (g c b:Nat) (d:World) (l:WalkAt d j gk a) (f:a[g]?=some b) (r:dZ a b g=c) (p:∀i∈a,i < 257) (u:a.length<=1000):
 Calls prog 133 #[gk,(c:Int)] d fun e v=>e=.returned (.int .i64 (b:Int))/\Below d.heap.size d v:=by
 have E:b < 257:=p _ (zAd f);have q:=rM f;have s:a.countP (fun i=>decide (i < b))+(a.take g).count b=c:=r;have t:c < a.length:=by have:=yF a b a.length;unfold dZ at this;rw [List.take_length] at this;omega
 have o:=l;obtain ⟨G,B,m,C,n⟩:=l;have F:=m.cell 1;obtain ⟨w,x,k,y,z,A⟩:=hqq6 o n s q t u;clear o m C n s q r t p u f;go_enter func133,ntmps133;go_wp2_with fail;refine (oS j gk a c d w.out z.out).mono ?_;rintro e w1 ⟨rfl,rfl⟩;go_wp2_with fail;refine (oV B a c b _ x.out E (by have:=k.out;omega) (by have:=k.out;have:=y.out;omega) A.out).mono ?_;rintro e v ⟨rfl,D⟩;go_wp2_with fail;go_ret;exact ⟨rfl,D⟩
def mW (b:UInt8) (a:Nat) (i:a=b.toNat+1) (c:World):
 Calls prog 132 #[(a:Int)] c fun d k=>d=.returned (.tuple #[bv b,.bool true])/\Below c.heap.size c k:=by
 have g:=b.toNat_lt;have l:¬((a:Int)=0):=oM;have m:((a:Int)==0)=false:=by rw [zCa];omega
 have n:IntKind.i64.wrap ((a:Int) - 1)=(b.toNat:Int):=by rw [IntKind.wrap_i64];omega
 have o:IntKind.u8.wrap (b.toNat:Int)=(b.toNat:Int):=by rw [IntKind.wrap_u8];omega
 have e:¬a=0:=oM;have p:decide (a=0)=false:=zBx e;have j:a < 257:=oM;clear i g;go_enter func132,ntmps132;go_wp2_with fail;refine (eC a c j).mono ?_;rintro d w1 ⟨rfl,f⟩;go_wp2_with fail;go_ret2;exact ⟨rfl,f⟩
def xL (c gk:Nat) (e:List Nat) (f j b:Nat) (l:World) (w:WalkAt l c gk e) (s:e[f]?=some b) (z:dZ e b f=j) (q:∀A∈e,A < 257) (t:e.length<=1000) (G:TabW l) (y:0 < c):
 Calls prog 96 #[gk,(j:Int)] l fun p a3=>p=.returned (.int .i64 (f:Int))/\VB c l a3:=by
 have a0:b < 257:=q _ (zAd s);have I:=jM c gk e f j b l w s z q t;obtain ⟨k,u⟩:∃k,e.countP (fun A=>decide (A < b))=k:=⟨_,rfl⟩;obtain ⟨n,r⟩:=eqx ((e.take f).count b);have J:k+n=j:=by rw [<-u,<-r];exact z
 have ae:k<=1000:=by rw [<-u];exact zAk zBh t
 have af:n<=1000:=by rw [<-r];exact zAk zBu (by rw [zAj];omega)
 have F:=w;obtain ⟨v,ad,x,E,Y⟩:=w;have ag:=x.lt;obtain ⟨K,L,N,S,P,D,U,R,T⟩:=hqq9 F x E s q t u r J;have B:=lhd G;clear F x E Y s q t u r z J G;have ah:decide ((b:Int) < 0)=false:=by simp
 go_enter func96,ntmps96;go_wp2_with fail;refine I.mono ?_;rintro p m ⟨rfl,H⟩;clear I;have i:VB c l m:=VisK.of_below H;obtain ⟨Q,M,O,C⟩:=hqq4 (K.out.vis i.1) (i.1.bk L.out dC dC) (N.out.vis i.1) (B.out.vb i y B.out.pos);have ai:=i.1.size;have V:=lhd i;clear i H;go_wp2_with fail;refine wp_region_any kR ?_;refine cX [11,12,13,14,15,16,17,18,19,20,21,4] (VB c) (Vs [is gk,is gk,is gk,is v,is (j:Int),is gk,is (b:Int),is (k:Int),is (n:Int),is (b:Int),is (f:Int),is (f:Int)]) _ _ rfl kR vR (fun _ _=>VisK.trans) (fC tA0) ?_ ?_
 · refine bN ?_;refine pH 0 (.pointer (some gk)) ?_;refine pV 0 11 ?_;refine pV 1 12 ?_;refine pL 2 13 (fun g a=>have a:(VB c) m g:=bD a;(((a.1.bk M.out dC dC).cell 0).trans rfl:g.cell? gk=some (.pointer (some v)))) ?_;refine pH 1 (.int .i64 (j:Int)) ?_;refine pH 0 (.pointer (some gk)) ?_;refine pH 5 (.int .i64 (b:Int)) ?_;refine sC (fun _ g a _ _ _ d _ _ _ o=>?_) ?_
   · have a8:_=_:=d 5 16 kR rfl;have a9:_=_:=d 6 17 kR rfl;replace a:(VB c) m g:=bD a;go_simp;refine (jN c gk e b g (Q.out.vis a.1) a0 D.out).mono ?_;rintro p a5 ⟨rfl,Z⟩;rw [U.out];exact o _ _ (VisK.of_below Z) rfl
   refine sC (fun _ _ _ _ _ _ d _ _ _ o=>?_) ?_
   · have a7:_=_:=d 4 15 kR rfl;have aa:_=_:=d 7 18 kR rfl;have aj:IntKind.i64.wrap ((j:Int) -(k:Int))=(n:Int):=(by rw [IntKind.wrap_i64];have:=T.out;omega);go_simp;exact o _ _ vR rfl
   refine pH 5 (.int .i64 (b:Int)) ?_;refine sC (fun _ g a _ _ _ d _ _ _ o=>?_) ?_
   · have a6:_=_:=d 3 14 kR rfl;have ab:_=_:=d 8 19 kR rfl;have ac:_=_:=d 9 20 kR rfl;replace a:(VB c) m g:=bD a;go_simp;refine (oR c v e f n b g (O.out.vis a.1) S.out R.out P.out D.out (C.out.vb a y C.out.pos) y).mono ?_;rintro p a5 ⟨rfl,a2⟩;exact o _ _ a2 rfl
   refine pV 10 21 ?_;exact aP
 · intro X a4 a d;replace a:(VB c) m a4:=bD a;have W:X (.tmp 4)=.int .i64 (f:Int):=d 11 4 rfl;simp only [zqq];rw [W];clear d;have a1:=V.out.trans a;go_wp2_with fail;go_ret;exact ⟨rfl,a1⟩
def mJ (d:World) (f:Nat) (j:List UInt8) (g a:Nat) (i:Ending) (e:World):Prop:=
 ∃b c,i=.returned (.tuple #[.slice b a c,.int .i64 0])/\Made e d.heap.size 5 1 b a c (((j.drop g).take a).map bv)/\VB f d e
def aAw (j v aW:Nat) (d:List UInt8) (c x:Nat) (k:World) (B:TpAt k j v d aW) (a3:TabW k) (aw:0 < j) (bs:c+x<=d.length):
 Calls prog 48 #[v,(c:Int),(x:Int)] k (mJ k j d c x):=by
 obtain ⟨bA,bo,ag,bx,bz⟩:=info_parts kH;obtain ⟨s,gk,bi,bJ,M,K,aN,ag,aF⟩:=B;have az:s.length=d.length+1:=by rw [M.len,aK]
 have a1:(aL (aE d) s).length=d.length+1:=by rw [dB,az]
 have W:∀r,r<=d.length->∃D,s[D]?=some r:=fun r aJ=>by obtain ⟨D,bp,l⟩:=M.row (p:=r) (by rw [aK];omega);exact ⟨D,zAc.2 ⟨bp,l⟩⟩
 have aI:∀(n D r:Nat) (g:UInt8),s[n]?=some (r+1)->s[D]?=some r->d[r]?=some g->(aL (aE d) s)[n]?=some (g.toNat+1)/\dZ (aL (aE d) s) (g.toNat+1) n=D:=fun n D r g Z a0 S=>aBd M Z a0 S;obtain ⟨n,a9⟩:=W c oM;have aM:=lO j v gk bi aW d s bJ n c k K aN M aF a9;obtain ⟨bZ,a6⟩:=K.blk;clear aN ag;obtain ⟨E,a2⟩:=eqx d.length;rw [a2] at a1 W bs aF;have bX:0 < k.heap.size:=a3.pos;have bT:=a6.lt;have bC:decide ((c:Int) < 0)=false:=by simp
 have bD:decide ((x:Int) < 0)=false:=by simp
 have aT:¬E < c:=oM;have bE:decide (E < c)=false:=zBx aT;obtain ⟨Y,bn⟩:=eqx (E - c);have bF:IntKind.i64.wrap ((E:Int) -(c:Int))=(Y:Int):=by rw [IntKind.wrap_i64];omega
 have aU:¬Y < x:=oM;have bG:decide (Y < x)=false:=zBx aU;obtain ⟨am,ar,ak,b8,b5,Q⟩:=hqq6 K.lvw K.walk a6 W aI a1;have ai:=lhd (fY (gI d) (rs:=s));obtain ⟨b0,aj,aY⟩:=hqq3 a9 a3 a2;clear a6 K W aI a1 a9 a3 M az a2 bn;unfold mJ;go_enter func48,ntmps48;go_wp2_with fail;refine (cB j v _ E k am.out Q.out oM).mono ?_;rintro l w1 ⟨rfl,rfl⟩;go_wp2_with fail;refine (cB j v _ E k am.out Q.out oM).mono ?_;rintro l w1 ⟨rfl,rfl⟩;go_wp2_with fail;refine aM.mono ?_;rintro l o ⟨rfl,aR⟩;have bb:=lhd aR;clear aM aR bC bD aT bE bF aU bG;go_wp2_with fail;go_loopw [8,9,40] (fun bK u n wr=>∃a row:Nat,a<=x/\n=.int .i64 (a:Int)/\u=.int .i64 (row:Int)/\s[row]?=some (c+a)/\wr.ownsRow k.heap.size 5 1 bK a (((d.drop c).take a).map bv)/\VB j k wr) (fun _ _ n _=>x -(intOf n).toNat)
 case atStart=>exact ⟨0,n,zAp _,rfl,rfl,b0.out,World.ownsRow_nil _ _ _ _,bb.out⟩
 case round=>
  obtain ⟨a,row,U,rfl,rfl,ab,V,C⟩:=hrel;by_cases bU:a < x
  · obtain ⟨g,a8⟩:∃g,d[c+a]?=some g:=⟨_,zAa (by rw [aY.out];omega)⟩;obtain ⟨H,ac⟩:=b8.out (c+a+1) oM;obtain ⟨ad,ae⟩:=b5.out H row (c+a) g ac ab a8;obtain ⟨O,af⟩:∃O,O=g.toNat+1:=⟨_,rfl⟩;rw [<-af] at ad ae;have aG:((d.drop c).take (a+1)).map bv=((d.drop c).take a).map bv++ [bv g]:=(by rw [zAv,zBs,a8,zAz];rfl);have a5:=C.1.bk ak.out dC dC;have bd:=a5.cell 0;have bB:=a5.lt;have bW:=C.1.size;have aS:=ar.out.vis C.1;obtain ⟨au,ba,ao,ap,an,aq,b3,b9⟩:=hqq8 aS af ad ae V C aG ac;clear ac ad ae V C aG a5 aS ab a8 af;go_wp2_with fail;refine (jM j gk _ H row O wr au.out ao.out ap.out ai.out (by rw [Q.out];omega)).mono ?_;rintro l bN ⟨rfl,a4⟩;go_wp2_with fail;refine (mW g O ba.out bN).mono ?_;rintro l A ⟨rfl,ay⟩;have G:Below wr.heap.size wr A:=a4.trans (ay.mono a4.size);have L:=(VisK.of_below (F:=fun b=>j<=b) G).1.own an.out dC dC;have X:=aq.out.below G;have a7:=X.1.bk ak.out dC dC;have aB:∀b,u8.ownBlock=some b->b < A.heap.size:=fun b J=>(L.lt b J).2;have aA:∀b,u8.ownBlock=some b->k.heap.size<=b:=fun b J=>(L.lt b J).1;have aH:¬u8.ownBlock=some v:=fun l=>aQ L a7 dC l.symm;have bt:=X.1.size;obtain ⟨b6,R,aZ,b1,al,b4⟩:=hqq6 L X a7 aB aA aH;clear a4 ay G L X a7 aB aA aH bd bB an aq au;go_wp2_with fail;refine wp_region_any kR ?_;refine dO j 10 [52,53,54,55,56,57,58,59,60,61] (fun b=>u8.ownBlock=some b) 3 [3] (fun o=>o.ownsRow k.heap.size 5 1 u8 a (((d.drop c).take a).map bv)) (fun u o=>o.ownsRow k.heap.size 5 1 u (a+1) (((d.drop c).take a).map bv++ [bv g])) [is (u8),is (bv g),fun u o=>∃z,u=.slice (some ⟨z,0,none⟩) 1 1/\Bk o z 5 #[bv g]/\u8.ownBlock≠some z,dU,is v,is v,is v,is gk,is (row:Int),is (H:Int)] _ _ rfl dC kR kR kR (b6.out) (fun w1 o B _ a=>a.1.own B dC dC) (fun _ _ _ B a=>a.1.own B dC dC) (by repeat' (first | exact nB _ _ | exact sZ _ | exact fun _ _ _ ⟨z,Z,a0,S⟩ a=>⟨z,Z,a.1.bk a0 dC dC S,S⟩|(refine zAe.2 ⟨?_,?_⟩)|(intro r aJ;cases aJ))) ?_ ?_
    · refine dG ?_;refine pH3 8 (u8) ?_;refine pH3 10 (bv g) ?_;refine sC3 (fun _ t e _ _ _ _ m _ _ _ q=>?_) ?_
      · replace e:VFB j (fun b=>u8.ownBlock=some b) A t:=fD e;have av:_=_:=m 1 53 kR rfl;go_simp;exact q _ _ (aD (vR.alloc _)) ⟨_,rfl,Bk.new _ _ _,fun B=>by have:=(b1.out _ B);have:=e.1.size;omega⟩
      refine sC3 (fun I t e bj _ _ _ m _ _ bl q=>?_) ?_
      · replace e:VFB j (fun b=>u8.ownBlock=some b) A t:=fD e;have br:=bj rfl;have bf:_=_:=m 0 52 kR rfl;have bH:(fun u o=>∃z,u=.slice (some ⟨z,0,none⟩) 1 1/\Bk o z 5 #[bv g]/\u8.ownBlock≠some z) (I (.tmp 54)) t:=m 2 54 kR rfl;obtain ⟨bh,av,bm,bV⟩:=bH;subst bl;have bw:=e.1.size;refine dN t (.tmp 52) (.tmp 54) _ rfl k.heap.size 5 bA (.int .u8 0) 1 1 underlying22 bo ag bx bz rfl dC u8 a _ bf br t.heap.size (some ⟨bh,0,none⟩) 1 1 [bv g] av (aA2 bm) (by simp [Value.oneCell',bv]) (by unfold maxLen;omega) oM (zAk bt bw) ?_;intro bL P bq w bS;refine q _ _ (sT ⟨VisF.of_keep ⟨w.os,w.tape,w.output,w.size,fun a U aa=>w.block a U (fun l=>aa l.symm)⟩,⟨w.os,w.tape,w.output,w.size,fun a U aa=>w.block a U (fun l=>aa (.inl l.symm))⟩⟩) bq
      refine pH3 0 (.pointer (some v)) ?_;refine pV3 4 56 ?_;refine pV3 5 57 ?_;refine sC3 (fun _ t e _ _ _ _ m _ _ _ q=>?_) ?_
      · replace e:VFB j (fun b=>u8.ownBlock=some b) A t:=fD e;have bP:_=_:=m 6 58 kR rfl;have G:=e.1.bk aZ.out dC dC b4.out;have bO:=G.cell 0;have bY:=G.lt;go_simp;exact q _ _ (aD vR) rfl
      refine pH3 9 (.int .i64 (row:Int)) ?_;refine sC3 (fun _ t e _ _ T _ m _ _ _ q=>?_) ?_
      · replace e:VFB j (fun b=>u8.ownBlock=some b) A t:=fD e;have bQ:_=_:=m 7 59 kR rfl;have bR:_=_:=m 8 60 kR rfl;go_simp;have N:=(VFB.trans (VFB.of_vb R.out) e).to_vb (fun b J T=>by have:=(al.out b T);omega);refine (xL j gk _ H row O t (ar.out.vis N.1) ao.out ap.out ai.out (by rw [Q.out];omega) (aj.out.vb N aw aj.out.pos) aw).mono ?_;rintro l c0 ⟨rfl,bu⟩;exact q _ _ (aD bu) rfl
      exact aP
    · intro I P y e m ax;replace e:VFB j (fun b=>u8.ownBlock=some b) A P:=fD e;have ah:(fun u o=>o.ownsRow k.heap.size 5 1 u (a+1) (((d.drop c).take a).map bv++ [bv g])) (I (.tmp 55)) P:=m 3 55 dC rfl;have bg:I (.tmp 61)=.int .i64 (H:Int):=m 9 61 dC rfl;obtain ⟨bM,aV⟩:=ax 3 dC;have bI:(fun u o=>o.ownsRow k.heap.size 5 1 u (a+1) (((d.drop c).take a).map bv++ [bv g])) bM P:=aV;clear aV ax;simp only [zqq];rw [bg];clear m;have N:=(VFB.trans (VFB.of_vb R.out) e).to_vb (fun b J T=>by have:=(al.out b T);omega);change wpAny prog Region.Mode.any _ _ (2+y) (cE 10 12) _ P;rw [show 2+y=y+1+1 by omega];generalize I (.tmp 55)=bL at ah⊢;obtain ⟨b7,bc⟩:=hqq2 ah N;clear ah N e bI;refine dI (f:=y+1) (i:=10) kR ?_;refine eE rfl rfl ?_;generalize q:wpAny prog _ _ _ (y+1) _=K5;go_simp;subst q;refine dI (f:=y) (i:=11) kR ?_;refine eE rfl rfl ?_;generalize q:wpAny prog _ _ _ y _=K5;go_simp;subst q;refine dW kR ?_;go_wp2_with fail;go_roundw
      case rel=>exact ⟨a+1,H,by omega,by go_num,by first | rfl | trivial,b9.out,by rw [b3.out];exact b7.out,bc.out⟩
      case measure=>simp [intOf];omega
  · obtain rfl:a=x:=oM;obtain ⟨aX,be,rfl,aC⟩:=aO V;obtain ⟨b2,R⟩:=hqq2 aC C;clear V aC C ab;go_wp2_with fail;go_ret2;exact ⟨aX,be,rfl,b2.out,R.out⟩
end Go.Proofs.YtnmapianpjamnaaGreatDoor
