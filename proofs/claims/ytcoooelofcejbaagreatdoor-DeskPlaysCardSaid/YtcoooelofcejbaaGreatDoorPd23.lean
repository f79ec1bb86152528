/- Lemmas of the walk. Conditions: each its own. -/
import Derived.Test.YtcoooelofcejbaaGreatDoorPd17
import Derived.Test.YtcoooelofcejbaaGreatDoorPd18
import Derived.Test.YtcoooelofcejbaaGreatDoorPd19
import Derived.Test.YtcoooelofcejbaaGreatDoorProg
import Derived.Test.YtcoooelofcejbaaGreatDoorShl
import Derived.Test.YtcoooelofcejbaaGreatDoorSht
set_option linter.all false
set_option maxRecDepth 100000
set_option maxHeartbeats 4000000
open Go.Proofs.Tryz
namespace Go.Proofs.YtcoooelofcejbaaGreatDoor
section
open Go.RowKit
def xF {B gk:Nat} {L:List Nat} {i:Nat} {w:World} (c:WalkAt w B gk L) (g:i < L.length):
 Calls prog 158 #[gk,(i:Int)] w fun b d=>b=.returned (.bool true)/\w=d:=by
 obtain ⟨j,a⟩:=eqx L.length;rw [a] at g;have k:(i:Int) < (j:Int):=oM;obtain ⟨f,e⟩:=hqq2 a c;clear a c;go_enter func158,ntmps158;go_wp2_with fail;refine (kC e.out).mono ?_;rintro b d ⟨rfl,rfl⟩;rw [f.out];go_wp2_with fail;go_ret;exact ⟨rfl,rfl⟩
def mB {b gk:Nat} {a:List Nat} {f d:Nat} {g:World} (I:WalkAt g b gk a) (r:a[f]?=some d) (A:∀E∈a,E < 257) (D:a.length<=1000):
 Calls prog 156 #[gk,(f:Int)] g fun l ad=>l=.returned (.int .i64 ((cB a d f:Nat):Int))/\VB b g ad:=by
 have Q:=(zAc.1 r).1;have U:d < 257:=A _ (zAd r);have O:=I;obtain ⟨k,an,q,K,a8⟩:=I;have a5:=q.cell 0;have aq:=q.lt;obtain ⟨o,C⟩:=eqx (cB a d f);obtain ⟨v,t⟩:∃ac,a.countP (fun E=>decide (E < d))=ac:=⟨_,rfl⟩;obtain ⟨x,u⟩:=eqx ((a.take f).count d);have T:v+x=o:=by rw [<-t,<-u,<-C];rfl
 have ao:v<=1000:=by rw [<-t];exact zAk zBh D
 have ap:x<=1000:=by rw [<-u];exact zAk zBv (by rw [zAj];omega)
 rw [C];obtain ⟨F,W,G,y,a0,H,z,a2,a3⟩:=hqq9 O q K Q r A D t u;have a1:=lhd T;clear O q K a8 Q r A D t u C T;go_enter func156,ntmps156;go_wp2_with fail;refine (xF (B:=b) (gk:=gk) (L:=a) (i:=f) (w:=g) F.out y.out).mono ?_;rintro l w1 ⟨rfl,rfl⟩;go_wp2_with fail;refine (dR (B:=b) (gv:=k) (L:=a) (w:=g) f d G.out y.out (zAc.1 a0.out).2 H.out z.out).mono ?_;rintro l p ⟨rfl,n⟩;have P:=F.out.vis n.1;have J:=n.1.bk W.out dC dC;have M:=G.out.vis n.1;obtain ⟨Z,X,Y,a4⟩:=hqq4 P J M n;clear P J M n a5;go_wp2_with fail;refine wp_region_any kR ?_;refine aY (S:=(VB b)) (V:=(Vs [is gk,is (d:Int),is (v:Int),is gk,is gk,is gk,is k,is (f:Int),is (d:Int),is (x:Int),is (o:Int),is (o:Int)])) [20,21,22,23,24,25,26,27,28,29,30,4] _ rfl kR vR (fun _ _=>VisK.trans) (cK tA0) ?_ ?_
 · refine aV ?_;refine pH 0 (.pointer (some gk)) ?_;refine pH 5 (.int .i64 (d:Int)) ?_;refine sC (fun _ j c _ _ _ e _ _ _ m=>?_) ?_
   · have ag:_=_:=e 0 20 kR rfl;have ah:_=_:=e 1 21 kR rfl;replace c:(VB b) p j:=bD c;go_simp;refine (gZ (B:=b) (gk:=gk) (L:=a) (s:=d) (w:=j) (Z.out.vis c.1) U z.out).mono ?_;rintro l af ⟨rfl,a9⟩;rw [a2.out];exact m _ _ (VisK.of_below a9) rfl
   refine pH 0 (.pointer (some gk)) ?_;refine pV 3 23 ?_;refine pV 4 24 ?_;refine pL 5 25 (fun j c=>have c:(VB b) p j:=bD c;(((c.1.bk X.out dC dC).cell 0).trans rfl:j.cell? gk=some (.pointer (some k)))) ?_;refine pH 1 (.int .i64 (f:Int)) ?_;refine pH 5 (.int .i64 (d:Int)) ?_;refine sC (fun _ j c _ _ _ e _ _ _ m=>?_) ?_
   · have aj:_=_:=e 6 26 kR rfl;have ak:_=_:=e 7 27 kR rfl;have al:_=_:=e 8 28 kR rfl;replace c:(VB b) p j:=bD c;go_simp;refine (gM (B:=b) (gv:=k) (L:=a) (s:=d) (w:=j) f (Y.out.vis c.1) U (zCm y.out) H.out z.out).mono ?_;rintro l af ⟨rfl,ab⟩;rw [a3.out];exact m _ _ ab rfl
   refine sC (fun _ _ _ _ _ _ e _ _ _ m=>?_) ?_
   · have ai:_=_:=e 2 22 kR rfl;have am:_=_:=e 9 29 kR rfl;have ar:IntKind.i64.wrap ((v:Int)+(x:Int))=(o:Int):=(by rw [IntKind.wrap_i64];have:=a1.out;omega);go_simp;exact m _ _ vR rfl
   refine pV 10 30 ?_;exact aH
 · intro a7 ae c e;replace c:(VB b) p ae:=bD c;have a6:a7 (.tmp 4)=.int .i64 (o:Int):=e 11 4 rfl;simp only [zqq];rw [a6];clear e;have aa:=a4.out.trans c;go_wp2_with fail;go_ret;exact ⟨rfl,aa⟩
structure LiveG (w:World) (Bw gl gk gp rate n:Nat) (L:List Nat) (pr:List (Nat×Nat)):Prop where
 blk:∃mv:Int,Bk w gl 74 #[gk,gp,(rate:Int),.int .i64 mv]
 walk:WalkAt w Bw gk L
 perm:PermR w gp n n pr
def LiveG.vis {k w':World} {c e gk f j g:Nat} {d:List Nat} {i:List (Nat×Nat)} (a:LiveG k c e gk f j g d i) (b:Vis k w'):LiveG w' c e gk f j g d i:=by
 obtain ⟨m,l⟩:=a.blk;exact ⟨⟨m,b.bk l dC dC⟩,a.walk.vis b,a.perm.vis b⟩
def LiveG.lvw {e:World} {a c gk f k i:Nat} {b:List Nat} {j:List (Nat×Nat)} (d:LiveG e a c gk f k i b j):LvW e a c b:=by
 obtain ⟨l,g⟩:=d.blk;exact ⟨gk,_,_,_,g,d.walk⟩
def LiveG.mono {j:World} {b B' d gk e i f:Nat} {c:List Nat} {g:List (Nat×Nat)} (a:LiveG j b d gk e i f c g) (k:B'<=b):LiveG j B' d gk e i f c g:=⟨a.blk,a.walk.mono k,a.perm⟩
def LiveG.lt {b:World} {c a gk e j g:Nat} {d:List Nat} {i:List (Nat×Nat)} (f:LiveG b c a gk e j g d i):a < b.heap.size:=f.lvw.lt
def tQ (a:List (Nat×Nat)):a=(List.range a.length).map fun c=>(aC a c,aJ a c):=by
 apply List.ext_getElem?;intro d;rw [zAf];by_cases b:d < a.length;rw [zCk b,zAa b];unfold aC aJ;rw [Option.map_some,zAb,zAa b];rfl;rw [zBg oM,zBg (by simpa using b)];rfl
def LiveAt.g {r:World} {d i gk j f:Nat} {o p q:Value} {c l m:Nat} {e:List Nat} {a:List (Nat×Nat)} {n:List Bool} (b:LiveAt r d i gk j f o p q c l m e a n) (u:a.Pairwise (fun s t=>s.1 < t.1)) (k:a.length<=1000):LiveG r d i gk j m l e a:=
 ⟨⟨0,b.blk⟩,b.walk,c,f,o,p,q,_,_,a,n, [],b.perm,aAP u,k,by rw [zCi];exact k,tQ a⟩
def pI {rs:List Nat} {rate n:Nat} (e:n<=rs.length):∀a∈cJ rs rate n,rs[a.1]?=some a.2:=fun a c=>by
 obtain ⟨d,b⟩:=nT c;rw [b,zAb,zAa (show a.1 < rs.length by omega)];rfl
def aFS {c:List UInt8} {b:List Nat} {rate:Nat} (a:IsSuf (aF c) b):∃g∈cJ b rate (c.length+1),g.2=0:=by
 obtain ⟨f,e,d⟩:=a.row (p:=0) (by rw [aK];omega);refine ⟨(f,0),(aER _ _ _ _ _).2 ⟨?_,?_,Nat.zero_mod _⟩,rfl⟩;have:=a.len;rw [aK] at this;omega;rw [zAb,zAa e,d];rfl
def fE (o af gk aG aY:Nat) {t:List UInt8} {rs:List Nat} {C:List (Nat×Nat)} {i p:Nat} (n:World) (G:LiveG n o af gk aG aY (t.length+1) (aD (aF t) rs) C) (am:∀c∈C,rs[c.1]?=some c.2) (f:IsSuf (aF t) rs) (aR:t.length<=127) (X:rs[i]?=some p):
 Calls prog 87 #[af,(p:Int)] n fun g aZ=>g=.returned (.int .i64 (i:Int))/\VB o n aZ:=by
 have Z:rs.length=t.length+1:=by rw [f.len,aK]
 have U:(aD (aF t) rs).length=t.length+1:=by rw [bF,Z]
 have aT:p < t.length+1:=by have:=f.lt (zAd X);rwa [aK] at this
 have a2:=aB8 f;obtain ⟨N,V⟩:=eqx t.length;have an:∀a b:Nat,rs[a]?=some (b+1)->∃L F,(aD (aF t) rs)[a]?=some L/\cB (aD (aF t) rs) L a=F/\rs[F]?=some b:=fun a b s=>by obtain ⟨I,ad⟩:=zAc.1 s;have aL:b+1 < (aF t).length:=f.lt (zAd s);obtain ⟨F,ag,ae⟩:=f.row (p:=b) oM;have aj:=eK t;have aN:=rB aj I ad (by rw [aK] at aL;omega);exact ⟨(aF t).getD b 0,F,zAc.2 ⟨_,aN⟩,lf f aj I ag ad ae,zAc.2 ⟨ag,ae⟩⟩
 have a0:∀a b:Nat,rs[a]?=some b->b<=t.length/\a<=t.length:=fun a b s=>by have e:=f.lt (zAd s);rw [aK] at e;have H:=(zAc.1 s).1;omega
 have ao:∀a,rs[a]?=some p->a=i:=fun a I=>uQ f I X;rw [V] at G;rw [V] at U aT aR Z a2 a0;have b2:decide ((p:Int) < 0)=false:=by simp
 have aS:¬N < p:=oM;have b3:decide (N < p)=false:=zBy aS;obtain ⟨l,av,ar,aa,au,ab,E⟩:=hqq7 G a2 am an a0 ao U;have a9:=lhd (cL (dM t) (rs:=rs));obtain ⟨b5,J⟩:=G.blk;have ay:=J.cell 0;have az:=J.cell 1;have aO:=J.lt;clear G a2 am an a0 ao U f X V Z J;go_enter func87,ntmps87;go_wp2_with fail;refine (bM l.out.lvw E.out oM).mono ?_;rintro g w1 ⟨rfl,rfl⟩;go_wp2_with fail;refine (bM l.out.lvw E.out oM).mono ?_;rintro g w1 ⟨rfl,rfl⟩;go_wp2_with fail;have a1:=oY p l.out.perm;unfold tL at a1;refine a1.mono ?_;rintro g b0 ⟨b8,rfl,D,ah⟩;clear a1;have a5:VB o n b0:=VisK.of_below ah;have H:=l.out.vis a5.1;obtain ⟨b6,K⟩:=H.blk;have aB:=K.cell 0;have aC:=K.cell 1;have aQ:=K.lt;obtain ⟨aq,ac⟩:=hqq2 H a5;clear ah a5 H ay az aO K;rcases D with ⟨D,_⟩|⟨⟨b4,m⟩,aM,D,Y,_⟩
 · subst D;go_wp2_with fail;go_loopw [5,6] (fun c a8 wr=>∃a d:Nat,p<=a/\a<=N/\rs[d]?=some a/\c=.int .i64 (a:Int)/\a8=.int .i64 (d:Int)/\VB o n wr) (fun c _ _=>(intOf c).toNat)
   case atStart=>exact ⟨N,0,by omega,zAs _,av.out,rfl,rfl,ac.out⟩
   case round=>
    obtain ⟨a,d,aU,aH,v,rfl,rfl,k⟩:=hrel;have e:=l.out.vis k.1;obtain ⟨aX,j⟩:=e.blk;have aA:=j.cell 0;have aP:=j.lt;obtain ⟨r,M,q⟩:=hqq3 k e v;clear e k v j;by_cases aI:p < a
    · obtain ⟨b,u⟩:∃b,a=b+1:=⟨a - 1,by omega⟩;obtain ⟨L,a6,x,y,z⟩:=aa.out d b (by rw [<-u];exact q.out);have aE:IntKind.i64.wrap ((a:Int) - 1)=(b:Int):=(by rw [IntKind.wrap_i64];omega);obtain ⟨O,P,Q⟩:=hqq3 x y z;have W:p<=b:=oM;have aJ:b < a:=oM;clear x y z u;go_wp2_with fail;refine (mB M.out.walk O.out a9.out (by rw [E.out];omega)).mono ?_;rintro g b1 ⟨rfl,A⟩;rw [P.out];have B:=r.out.trans A;have T:=lhd B;clear A B;go_wp2_with fail;go_roundw
      case rel=>exact ⟨b,a6,W,by omega,Q.out,by go_num,by first | rfl | trivial,T.out⟩
      case measure=>simp [intOf];omega
    · obtain rfl:a=p:=oM;have a3:=ab.out d q.out;subst a3;go_wp2_with fail;go_ret;exact ⟨rfl,r.out⟩
 · subst D;have Y:p<=m:=Y;have ak:∃c∈C,c.2=m:=⟨_,aM,rfl⟩;have aV:decide ((m:Int)>=0)=true:=(by simp);go_wp2_with fail;have a4:=rZ aq.out.perm ak;unfold xR at a4;refine a4.mono ?_;rintro g b7 ⟨a7,al,rfl,ai⟩;have w:=ar.out _ al;have w:rs[a7]?=some m:=w;have ap:=ac.out.below ai;obtain ⟨aw,ax⟩:=hqq2 w ap;have aW:=(au.out a7 m w).1;clear a4 al w ai ap ak aB aC aQ aV;go_wp2_with fail;go_loopw [5,6] (fun c a8 wr=>∃a d:Nat,p<=a/\a<=N/\rs[d]?=some a/\c=.int .i64 (a:Int)/\a8=.int .i64 (d:Int)/\VB o n wr) (fun c _ _=>(intOf c).toNat)
   case atStart=>exact ⟨m,a7,Y,aW,aw.out,rfl,rfl,ax.out⟩
   case round=>
    obtain ⟨a,d,aU,aH,v,rfl,rfl,k⟩:=hrel;have e:=l.out.vis k.1;obtain ⟨aX,j⟩:=e.blk;have aA:=j.cell 0;have aP:=j.lt;obtain ⟨r,M,q⟩:=hqq3 k e v;clear e k v j;by_cases aI:p < a
    · obtain ⟨b,u⟩:∃b,a=b+1:=⟨a - 1,by omega⟩;obtain ⟨L,a6,x,y,z⟩:=aa.out d b (by rw [<-u];exact q.out);have aE:IntKind.i64.wrap ((a:Int) - 1)=(b:Int):=(by rw [IntKind.wrap_i64];omega);obtain ⟨O,P,Q⟩:=hqq3 x y z;have W:p<=b:=oM;have aJ:b < a:=oM;clear x y z u;go_wp2_with fail;refine (mB M.out.walk O.out a9.out (by rw [E.out];omega)).mono ?_;rintro g b1 ⟨rfl,A⟩;rw [P.out];have B:=r.out.trans A;have T:=lhd B;clear A B;go_wp2_with fail;go_roundw
      case rel=>exact ⟨b,a6,W,by omega,Q.out,by go_num,by first | rfl | trivial,T.out⟩
      case measure=>simp [intOf];omega
    · obtain rfl:a=p:=oM;have a3:=ab.out d q.out;subst a3;go_wp2_with fail;go_ret;exact ⟨rfl,r.out⟩
def aBs {t c n u v w g d:Nat} (a:Nat) {f:List (Nat×Nat)} {k:World} (q:k.ownsRow t 112 2 (.slice (some c) n u) n (bG f)) (y:a < f.length) (z:Bk k v 3 #[(g:Int)]) (A:Bk k w 3 #[(d:Int)]) (G:aC f a<=1000000000000):
 Calls prog 221 #[.pointer (some ⟨c,a*2,none⟩),v,w] k fun E W=>E=.returned (.tuple #[])/\W.ownsRow t 112 2 (.slice (some c) n u) n (bG (f.set a (mvR g d (aC f a),aJ f a)))/\Keep (fun i=>i=c) k W:=by
 obtain ⟨V,a2⟩:=cC f a y;have a1:f.length=n:=by have x:=q.1;rw [cU] at x;omega
 have Z:=(World.ownsRow.cellAt q (a*2) oM).trans V;have ad:k.cell? v=some (.int .i64 (g:Int)):=(z.cell 0).trans rfl;have ae:k.cell? w=some (.int .i64 (d:Int)):=(A.cell 0).trans rfl;obtain ⟨a5,r⟩:=gS q;have a7:=r.frozen (a*2);have a8:=r.lt;have a9:=z.lt;have aa:=A.lt;have ab:v≠c:=Bk.ne z r dC;have ac:w≠c:=Bk.ne A r dC;have J:=kW y;have Q:=fun e=>jU e y;obtain ⟨b,I⟩:=eqx (aC f a);rw [I] at Z J G;rw [I];obtain ⟨B,X,M⟩:=hqq3 q J Q;have T:∀e:Nat,(k.setCell ⟨c,a*2,none⟩ (.int .i64 (e:Int))).ownsRow t 112 2 (.slice (some c) n u) n (bG (f.set a (e,aJ f a))):=fun e=>by have:=(World.ownsRow.stored B.out (a*2) (.int .i64 (e:Int))).1;rwa [M.out] at this
 have U:∀L e:Nat,((k.setCell ⟨c,a*2,none⟩ (.int .i64 (L:Int))).setCell ⟨c,a*2,none⟩ (.int .i64 (e:Int))).ownsRow t 112 2 (.slice (some c) n u) n (bG (f.set a (e,aJ f a))):=fun L e=>by have x:=(World.ownsRow.stored (World.ownsRow.stored B.out (a*2) (.int .i64 (L:Int))).1 (a*2) (.int .i64 (e:Int))).1;rw [List.set_set,M.out] at x;exact x
 have P:∀e:Value,Keep (fun i=>i=c) k (k.setCell ⟨c,a*2,none⟩ e):=fun e=>Keep.setCell (F:=fun i=>i=c) (Keep.refl _ _) (p:=⟨c,a*2,none⟩) (.inl rfl) _;obtain ⟨C,Y,a3⟩:=hqq3 T U P;clear q y z A V a2 r J Q a1 I T U P;have s:∀e:Nat,mvR g d b=e->f.set a (mvR g d b,aJ f a)=f.set a (e,aJ f a):=fun e E=>by rw [E]
 by_cases O:b=g
 · subst O;have l:mvR b d b=d:=(by unfold mvR;rw [zBx rfl]);rw [l];clear s;go_enter func221,ntmps221;go_wp2_with fail;go_quiet (fail);go_wp2_with fail;refine bodyPost_ret (results_none rfl _ _ _) rfl ?_;exact ⟨rfl,qS (C.out d) rfl,(Keep.setCell (F:=fun i=>i=c) ((Keep.refl _ _).drewN _) (p:=⟨c,a*2,none⟩) (.inl rfl) _)⟩
 · have a4:((b:Int)==(g:Int))=false:=(by rw [zCb];omega);have m:mvR g d b=inR (aU b g) d:=(by unfold mvR;rw [zBw O]);by_cases D:g < b
   · obtain ⟨j,H⟩:∃j,b=j+1:=⟨b - 1,by omega⟩;have b1:decide ((b:Int) > (g:Int))=true:=zBz oM;have a6:IntKind.i64.wrap ((b:Int) - 1)=(j:Int):=(by rw [IntKind.wrap_i64];omega);have K:aU b g=j:=(by unfold aU;rw [zBx D];omega);rw [K] at m;by_cases o:d<=j
     · have b2:decide ((j:Int)>=(d:Int))=true:=zBz oM;have a0:wrap64 ((j:Int)+1)=(b:Int):=(by rw [dK oM oM];omega);have l:mvR g d b=b:=(by rw [m];unfold inR;rw [zBx o];exact H.symm);rw [l];clear s m K G H;go_enter func221,ntmps221;go_wp2_with fail;go_quiet (fail);go_wp2_with fail;go_quiet (fail);go_wp2_with fail;go_quiet (fail);go_wp2_with fail;go_end0;exact ⟨rfl,qS (Y.out j b) rfl,(Keep.setCell (F:=fun i=>i=c) (Keep.drewN (Keep.setCell (F:=fun i=>i=c) ((Keep.refl _ _).drewN _) (p:=⟨c,a*2,none⟩) (.inl rfl) _) _) (p:=⟨c,a*2,none⟩) (.inl rfl) _)⟩
     · have b2:decide ((j:Int)>=(d:Int))=false:=zBy oM;have l:mvR g d b=j:=(by rw [m];unfold inR;rw [zBw o]);rw [l];clear s m K G H;go_enter func221,ntmps221;go_wp2_with fail;go_quiet (fail);go_wp2_with fail;go_quiet (fail);go_wp2_with fail;go_quiet (fail);go_wp2_with fail;go_end0;exact ⟨rfl,qS (C.out j) rfl,Keep.drewN (Keep.setCell (F:=fun i=>i=c) ((Keep.refl _ _).drewN _) (p:=⟨c,a*2,none⟩) (.inl rfl) _) _⟩
   · have b1:decide ((b:Int) > (g:Int))=false:=zBy oM;by_cases o:d<=b
     · have b2:decide ((b:Int)>=(d:Int))=true:=zBz oM;have a0:wrap64 ((b:Int)+1)=((b+1:Nat):Int):=(by rw [dK oM oM];omega);have l:mvR g d b=b+1:=(by rw [m];unfold aU;rw [zBw D];unfold inR;rw [zBx o]);rw [l];clear s m;go_enter func221,ntmps221;go_wp2_with fail;go_quiet (fail);go_wp2_with fail;go_quiet (fail);go_wp2_with fail;go_quiet (fail);go_wp2_with fail;go_end0;exact ⟨rfl,qS (C.out (b+1)) rfl,(Keep.setCell (F:=fun i=>i=c) ((Keep.refl _ _).drewN _) (p:=⟨c,a*2,none⟩) (.inl rfl) _)⟩
     · have b2:decide ((b:Int)>=(d:Int))=false:=zBy oM;have l:mvR g d b=b:=(by rw [m];unfold aU;rw [zBw D];unfold inR;rw [zBw o]);rw [l,X.out];clear s m;go_enter func221,ntmps221;go_wp2_with fail;go_quiet (fail);go_wp2_with fail;go_quiet (fail);go_wp2_with fail;go_quiet (fail);go_wp2_with fail;go_end0;exact ⟨rfl,B.out,(((Keep.refl _ _).drewN _).drewN _).drewN _⟩
def uK {o j r k l m n:Nat} {f v w u:Value} {R p:Nat} {d:List Nat} {c:List (Nat×Nat)} {t:List Bool} {q:List Nat} {g:World} (y:PermAt g o j r f v w u R p d c t q) (F:d.Nodup) (E:d.length<=1000000) (H:Bk g k 3 #[(m:Int)]) (C:∀b,f.ownBlock=some b->b≠k) (I:Bk g l 3 #[(n:Int)]) (D:∀b,f.ownBlock=some b->b≠l) (z:∀a,a∈d->aC c a<=1000000000000/\aJ c a<=1000000000000):
 Calls prog 214 #[j,.func (.func 221) #[] #[k,l]] g fun e x=>e=.returned (.tuple #[])/\Keep (fun b=>f.ownBlock=some b) g x/\∃i,i.length=c.length/\(∀a,a∈d->(aC i a,aJ i a)=(mvR m n (aC c a),aJ c a))/\PermAt x o j r f v w u R p d i t q:=
 nQ (fun K J=>(mvR m n K,J)) y F E z (kJ func221 kR kR) fun _ _ _ a _ _ s G A B=>aBs a G A (s.bk H fun e=>C _ e rfl) (s.bk I fun e=>D _ e rfl) B.1
end
section
section
variable {S R : List Nat} {N : Nat}
def ush (b a:Nat):Nat:=if a < b then a else a - 1
def aGX (a b:Nat):ush a (sh a b)=b:=by
 unfold ush sh
 (repeat' split)<;> omega
def aDC {k a:Nat} (b:a≠k):sh k (ush k a)=a:=by
 unfold ush sh
 (repeat' split)<;> omega
def jE (b:List Nat) {a:Nat} (c:Nat) (d:a < b.length):(aG b a).getD c 0=b.getD (sh a c) 0:=by
 rw [aJG d];unfold sh;split <;> rfl
def aJF (d:EndOk S (N+1)) {a:Nat} (f:a<=N):EndOk (aG S a) N:=by
 obtain ⟨e,b,c⟩:=d;have g:=cM (l:=S) (k:=a) oM;refine ⟨by omega,?_,fun j i=>?_⟩;rw [jE _ _ oM];unfold sh;rw [zBw oM];exact b
 · rw [jE _ _ oM];refine c _ ?_;unfold sh;split <;> omega
def aA8 (l:R.Perm (List.range (N+1+1))) {b:Nat} (s:b<=N):(b::aG R (ro R b)).Perm R/\(aG R (ro R b)).Nodup/\(∀a∈R,a≠b->(aG R (ro R b))[aU (ro R a) (ro R b)]?=some a)/\∀a,a∈aG R (ro R b)↔a∈R/\a≠b:=by
 have q:R.Nodup:=l.nodup_iff.2 List.nodup_range;have k:b∈R:=l.mem_iff.2 (zCj.2 oM);have i:=bT k;have p:=(zAc.1 i).1;have d:=eE i;have f:=d.nodup_iff.2 q;rw [List.nodup_cons] at f;refine ⟨d,f.2,fun a m r=>?_,fun a=>?_⟩;have j:=bT m;have t:ro R a≠ro R b:=fun e=>r (eH m k e);rw [dQ p];unfold aU;by_cases g:ro R b < ro R a;rw [zBx g,zBw oM,show ro R a - 1+1=ro R a by omega];exact j;rw [zBw g,zBx oM];exact j;constructor;intro c;exact ⟨d.mem_iff.1 (List.mem_cons_of_mem _ c),fun e=>f.1 (e ▸ c)⟩;rintro ⟨n,o⟩;rcases List.mem_cons.1 (d.mem_iff.2 n) with c | c;exact absurd c o;exact c
def aHw (e:R.Perm (List.range (N+1+1))) {at_:Nat} (q:at_<=N):((aG R (ro R at_)).map (ush at_)).Perm (List.range (N+1))/\∀a,a<=N->ro ((aG R (ro R at_)).map (ush at_)) a=aU (ro R (sh at_ a)) (ro R at_):=by
 obtain ⟨u,o,p,b⟩:=aA8 e q;have g:((aG R (ro R at_)).map (ush at_)).Nodup:=by refine List.pairwise_map.2 (o.imp_of_mem fun {c j} d s r l=>r ?_);have m:=aDC (k:=at_) ((b c).1 d).2;have n:=aDC (k:=at_) ((b j).1 s).2;rw [<-m,<-n,l]
 have f:∀a,a<=N->sh at_ a∈R:=fun a v=>e.mem_iff.2 (zCj.2 (by unfold sh;split <;> omega));refine ⟨(List.perm_ext_iff_of_nodup g List.nodup_range).2 fun i=>?_,fun a t=>?_⟩
 · rw [zAy,zCj];constructor
   · rintro ⟨c,d,rfl⟩;have:=zCj.1 (e.mem_iff.1 ((b c).1 d).1);have:=((b c).1 d).2;unfold ush;split <;> omega
   intro w;exact ⟨sh at_ i,(b _).2 ⟨f i oM,zP _ _⟩,aGX _ _⟩
 · refine fF g ?_;rw [zAf,p _ (f a t) (zP _ _)];show some (ush at_ (sh at_ a))=some a;rw [aGX]
def aH1 (w:IsSuf S R) (i:EndOk S (N+1)) {at_:Nat} (p:at_<=N):Near (aG S at_) ((aG R (ro R at_)).map (ush at_)) N at_:=by
 have j:=w.near i;have H:=i.len;obtain ⟨v,n⟩:=aHw j.perm p;have k:∀a,a<=N+1->a∈R:=fun a d=>j.mem.2 d;have f:∀a,a<=N->sh at_ a<=N+1:=fun a d=>by unfold sh;split <;> omega
 have l:∀a b,a<=N->b<=N->(ro ((aG R (ro R at_)).map (ush at_)) a < ro ((aG R (ro R at_)).map (ush at_)) b↔ro R (sh at_ a) < ro R (sh at_ b)):=fun a b d e=>by rw [n a d,n b e];have J:ro R (sh at_ a)≠ro R at_:=fun g=>zP _ _ (eH (k _ (f a d)) (k at_ oM) g);have K:ro R (sh at_ b)≠ro R at_:=fun g=>zP _ _ (eH (k _ (f b e)) (k at_ oM) g);unfold aU;split <;> split <;> omega
 refine ⟨aJF i p,v,fun a b d e A=>?_,fun a b d e D C E=>?_⟩;rw [jE _ _ oM,jE _ _ oM];exact j.first _ _ (f a d) (f b e) ((l a b d e).1 A)
 · have B:sh at_ a≠sh at_ b:=fun g=>D (aDD g);rw [l a b d e,j.cons _ _ (f a d) (f b e) B oM oM];unfold tC;rw [jE _ _ oM,jE _ _ oM];by_cases G:S.getD (sh at_ a) 0=S.getD (sh at_ b) 0
   · by_cases m:S.getD (sh at_ a) 0=0;have t:∀c,c<=N+1->S.getD c 0=0->c=N+1:=fun c r s=>Nat.le_antisymm r (zCs.1 fun z=>by have:=i.pos c z;omega);have L:=t _ (f a d) m;have M:=t _ (f b e) oM;omega
     · have q:∀c,c<=N->c+1≠at_->S.getD (sh at_ c) 0≠0->c < N/\sh at_ c+1=sh at_ (c+1):=fun c r I s=>by have x:sh at_ c≠N+1:=fun g=>s (by rw [g];exact i.last);have y:c < N:=(by rcases zBe c N with o | o;exact o;exfalso;apply x;unfold sh;rw [zBw oM];omega);refine ⟨y,?_⟩;unfold sh;split <;> split <;> omega
       obtain ⟨F,u⟩:=q a d C m;obtain ⟨b1,b2⟩:=q b e E oM;rw [u,b2,l (a+1) (b+1) oM oM]
   omega
def aGa (f:R.Perm (List.range (N+1+1))) (t:EndOk S (N+1)) {at_:Nat} (B:at_<=N):aD (aG S at_) ((aG R (ro R at_)).map (ush at_))=aG ((aD S R).set (ro R (at_+1)) (bE S at_)) (ro R at_):=by
 have x:R.Nodup:=f.nodup_iff.2 List.nodup_range;have A:=t.len;have C:=cM (l:=S) (k:=at_) oM;have w:∀a,a∈R->a<=N+1:=fun a i=>by have:=zCj.1 (f.mem_iff.1 i);omega
 have s:at_∈R:=f.mem_iff.2 (zCj.2 oM);have o:at_+1∈R:=f.mem_iff.2 (zCj.2 oM);have p:=(zAc.1 (bT s)).1;have y:∀a,a<=N+1->a≠at_->bE (aG S at_) (ush at_ a)=if a=at_+1 then bE S at_ else bE S a:=fun a D q=>by
  by_cases b:a=at_+1
  · subst b;rw [zBx rfl,show ush at_ (at_+1)=at_ by unfold ush;rw [zBw oM];omega];rcases at_ with _ | z;rw [bI oM,bI oM,jE _ _ oM];unfold sh;rw [zBw oM];congr 1;omega
    · rw [aT oM,aT oM,jE _ _ oM];unfold sh;rw [zBx oM]
  · rw [zBw b];rcases a with _ | a;rw [show ush at_ 0=0 by unfold ush;split <;> omega,bI oM,bI oM,jE _ _ oM];unfold sh;rw [zBw oM];congr 1;omega
    · by_cases n:a+1 < at_
      · rw [show ush at_ (a+1)=a+1 by unfold ush;rw [zBx n],aT oM,aT oM,jE _ _ oM];unfold sh;rw [zBx oM]
      · obtain ⟨g,rfl⟩:∃g,a=g+1:=⟨a - 1,by omega⟩;rw [show ush at_ (g+1+1)=g+1 by unfold ush;rw [zBw n];omega,aT oM,aT oM,jE _ _ oM];unfold sh;rw [zBw oM]
 unfold aD;rw [zCh];apply List.ext_getElem?;intro m;have v:ro R at_ < ((R.map (bE S)).set (ro R (at_+1)) (bE S at_)).length:=by simpa using p
 rw [zAf,dQ p,dQ v];have r:∀d,d≠ro R at_->Option.map (bE (aG S at_)∘ ush at_) R[d]?=((R.map (bE S)).set (ro R (at_+1)) (bE S at_))[d]?:=fun d u=>by
  rw [zBm,zAf];cases c:R[d]? with
  | none=>
    have:¬ro R (at_+1)=d:=fun e=>by rw [<-e,bT o] at c;cases c
    rw [zBw this];rfl
  | some a=>
    have i:=zAd c;have j:=fF x c;have q:a≠at_:=fun e=>u (by rw [<-j,e]);show some (bE (aG S at_) (ush at_ a))=_;rw [y a (w a i) q];by_cases b:a=at_+1
    · subst b;rw [zBx rfl,zBx j,zBx (by rw [j];simpa using (zAc.1 c).1)]
    rw [zBw b,zBw (fun e=>b ?_)];rfl;rw [<-e,bT o] at c;injection c with c;exact c.symm
 by_cases b:m < ro R at_;rw [zBx b,zBx b];exact r m oM;rw [zBw b,zBw b];exact r (m+1) oM
def aG6 {c:List Nat} {a b s:Nat} (k:a < c.length) (l:a≠b):((aG (c.set b s) a).take (aU b a)).count s+(if a < b/\c.getD a 0=s then 1 else 0)=(c.take b).count s:=by
 have g:(c.set b s).take b=c.take b:=by
  apply List.ext_getElem?;intro n;rw [zBs,zBs];split
  · rw [zBm,zBw oM]
  rfl
 unfold aU;by_cases d:a < b
 · rw [zBx d];have i:(aG (c.set b s) a).take (b - 1)=aG (c.take b) a:=(by unfold aG;have e:((c.set b s).take a).length=a:=(by rw [zAj,zAt];omega);rw [List.take_append,e,List.take_take,Nat.min_eq_right oM,<-g,List.take_take,zCu oM,List.drop_take];congr 2;omega);rw [i];have m:a < (c.take b).length:=(by rw [zAj];omega);have j:(c.take b)[a]?=some (c.getD a 0):=(by rw [zBs,zBx d,zAb,zAa k];rfl);have:=(eE j).count_eq s;rw [<-this,List.count_cons];by_cases f:c.getD a 0=s
   · simp [d,f]
   · simp [d,f]
 · rw [zBw d,zBw oM,zBq];unfold aG;have e:((c.set b s).take a).length=a:=(by rw [zAj,zAt];omega);rw [List.take_append,e,show b - a=0 by omega,List.take_zero,List.append_nil,List.take_take,zCu oM,g]
end
end
section
open Go.RowKit
def aBb {a:List Nat} {c b:Nat} (d:a[c]?=some b):(a.take c).count b < a.count b:=by
 have e:a.count b=(a.take (c+1)).count b+(a.drop (c+1)).count b:=by rw [<-zCc,zAu]
 have f:(a.take (c+1)).count b=(a.take c).count b+1:=by rw [zAv,d,zCc];simp
 omega
def aHU {a:List UInt8} {b:List Nat} (n:IsSuf (aF a) b) {e m d:Nat} {c:UInt8} (p:b[e]?=some (d+1)) (q:b[m]?=some d) (i:a[d]?=some c):
 (aD (aF a) b)[e]?=some (c.toNat+1)/\cB (aD (aF a) b) (c.toNat+1) e=m:=by
 obtain ⟨j,k⟩:=zAc.1 p;obtain ⟨r,s⟩:=zAc.1 q;have l:=(zAc.1 i).1;have o:(aF a).getD d 0=c.toNat+1:=by unfold aF cZ;rw [zAb,zAn (by simpa using l),zAf,i];rfl
 have f:=lf n (eK a) j r k s;have g:=rB (eK a) j k l;rw [o] at f g;exact ⟨zAc.2 ⟨_,g⟩,f⟩
def oU {B gk:Nat} {L:List Nat} {i j s:Nat} {w:World} (e:WalkAt w B gk L) (b:L[i]?=some s) (n:cB L s i=j) (l:∀c∈L,c < 257) (q:L.length<=1000):
 Calls prog 89 #[gk,(j:Int)] w fun a r=>a=.returned (.int .i64 (s:Int))/\Below w.heap.size w r:=by
 have C:s < 257:=l _ (zAd b);have m:=aBb b;have o:L.countP (fun c=>decide (c < s))+(L.take i).count s=j:=n;have p:j < L.length:=by have:=uT L s L.length;unfold cB at this;rw [List.take_length] at this;omega
 have k:=e;obtain ⟨F,E,f,z,g⟩:=e;have D:=f.cell 1;obtain ⟨t,u,d,v,x,y⟩:=hqq6 k g o m p q;clear k f z g o m n p l q b;go_enter func89,ntmps89;go_wp2_with fail;refine (xF t.out x.out).mono ?_;rintro a w1 ⟨rfl,rfl⟩;go_wp2_with fail;refine (xL j u.out C (by have:=d.out;omega) (by have:=d.out;have:=v.out;omega) y.out).mono ?_;rintro a r ⟨rfl,A⟩;go_wp2_with fail;go_ret;exact ⟨rfl,A⟩
def uE {c:UInt8} {s:Nat} (g:s=c.toNat+1) (a:World):
 Calls prog 88 #[(s:Int)] a fun b j=>b=.returned (.tuple #[bv c,.bool true])/\Below a.heap.size a j:=by
 have f:=c.toNat_lt;have k:¬((s:Int)=0):=oM;have l:((s:Int)==0)=false:=by rw [zCb];omega
 have m:IntKind.i64.wrap ((s:Int) - 1)=(c.toNat:Int):=by rw [IntKind.wrap_i64];omega
 have n:IntKind.u8.wrap (c.toNat:Int)=(c.toNat:Int):=by rw [IntKind.wrap_u8];omega
 have d:¬s=0:=oM;have o:decide (s=0)=false:=zBy d;have i:s < 257:=oM;clear g f;go_enter func88,ntmps88;go_wp2_with fail;refine (eP a i).mono ?_;rintro b w1 ⟨rfl,e⟩;go_wp2_with fail;go_ret2;exact ⟨rfl,e⟩
def pU {c gk:Nat} {d:List Nat} {f g b:Nat} {k:World} (C:WalkAt k c gk d) (y:d[f]?=some b) (F:cB d b f=g) (v:∀G∈d,G < 257) (z:d.length<=1000) (O:TabW k) (E:7 < c):
 Calls prog 90 #[gk,(g:Int)] k fun t ae=>t=.returned (.int .i64 (f:Int))/\VB c k ae:=by
 have ab:b < 257:=v _ (zAd y);have Q:=oU (B:=c) (gk:=gk) (L:=d) (i:=f) (j:=g) (s:=b) (w:=k) C y F v z;obtain ⟨n,A⟩:∃n,d.countP (fun G=>decide (G < b))=n:=⟨_,rfl⟩;obtain ⟨p,x⟩:=eqx ((d.take f).count b);have T:n+p=g:=by rw [<-A,<-x];exact F
 have ap:n<=1000:=by rw [<-A];exact zAk zBh z
 have aq:p<=1000:=by rw [<-x];exact zAk zBv (by rw [zAj];omega)
 have M:=C;obtain ⟨u,ao,D,K,a9⟩:=C;have ar:=D.lt;obtain ⟨U,W,Y,a3,a0,J,a5,a2,a4⟩:=hqq9 M D K y v z A x T;have H:=lhd O;clear M D K a9 y v z A x F T O;have au:decide ((b:Int) < 0)=false:=by simp
 go_enter func90,ntmps90;go_wp2_with fail;refine Q.mono ?_;rintro t o ⟨rfl,P⟩;clear Q;have m:VB c k o:=VisK.of_below P;obtain ⟨a1,X,Z,I⟩:=hqq4 (U.out.vis m.1) (m.1.bk W.out dC dC) (Y.out.vis m.1) (H.out.vb m E H.out.pos);have av:=m.1.size;have a6:=lhd m;clear m P;go_wp2_with fail;refine wp_region_any kR ?_;refine aY (S:=(VB c)) (V:=(Vs [is gk,is gk,is gk,is u,is (g:Int),is gk,is (b:Int),is (n:Int),is (p:Int),is (b:Int),is (f:Int),is (f:Int)])) [11,12,13,14,15,16,17,18,19,20,21,4] _ rfl kR vR (fun _ _=>VisK.trans) (cK tA0) ?_ ?_
 · refine aV ?_;refine pH 0 (.pointer (some gk)) ?_;refine pV 0 11 ?_;refine pV 1 12 ?_;refine pL 2 13 (fun l a=>have a:(VB c) o l:=bD a;(((a.1.bk X.out dC dC).cell 0).trans rfl:l.cell? gk=some (.pointer (some u)))) ?_;refine pH 1 (.int .i64 (g:Int)) ?_;refine pH 0 (.pointer (some gk)) ?_;refine pH 5 (.int .i64 (b:Int)) ?_;refine sC (fun _ l a _ _ _ e _ _ _ q=>?_) ?_
   · have aj:_=_:=e 5 16 kR rfl;have ak:_=_:=e 6 17 kR rfl;replace a:(VB c) o l:=bD a;go_simp;refine (gZ (B:=c) (gk:=gk) (L:=d) (s:=b) (w:=l) (a1.out.vis a.1) ab J.out).mono ?_;rintro t ag ⟨rfl,aa⟩;rw [a5.out];exact q _ _ (VisK.of_below aa) rfl
   refine sC (fun _ _ _ _ _ _ e _ _ _ q=>?_) ?_
   · have ai:_=_:=e 4 15 kR rfl;have al:_=_:=e 7 18 kR rfl;have aw:IntKind.i64.wrap ((g:Int) -(n:Int))=(p:Int):=(by rw [IntKind.wrap_i64];have:=a4.out;omega);go_simp;exact q _ _ vR rfl
   refine pH 5 (.int .i64 (b:Int)) ?_;refine sC (fun _ l a _ _ _ e _ _ _ q=>?_) ?_
   · have ah:_=_:=e 3 14 kR rfl;have am:_=_:=e 8 19 kR rfl;have an:_=_:=e 9 20 kR rfl;replace a:(VB c) o l:=bD a;go_simp;refine (xB (B:=c) (gv:=u) (L:=d) (r:=f) (j:=p) (s:=b) (w:=l) (Z.out.vis a.1) a3.out a2.out a0.out J.out (I.out.vb a E I.out.pos) E).mono ?_;rintro t ag ⟨rfl,ad⟩;exact q _ _ ad rfl
   refine pV 10 21 ?_;exact aH
 · intro a8 af a e;replace a:(VB c) o af:=bD a;have a7:a8 (.tmp 4)=.int .i64 (f:Int):=e 11 4 rfl;simp only [zqq];rw [a7];clear e;have ac:=a6.out.trans a;go_wp2_with fail;go_ret;exact ⟨rfl,ac⟩
def aC0 {v e g x n d:Nat} (a:Nat) {b:List (Nat×Nat)} {i:World} (f:i.ownsRow v 112 2 (.slice (some e) g x) g (bG b)) (j:a < b.length) (u:Bk i n 3 #[(d:Int)]) (J:aC b a<=1000000000000):
 Calls prog 215 #[.pointer (some ⟨e,a*2,none⟩),n] i fun H A=>H=.returned (.tuple #[])/\A.ownsRow v 112 2 (.slice (some e) g x) g (bG (b.set a (aU (aC b a) d,aJ b a)))/\Keep (fun l=>l=e) i A:=by
 obtain ⟨y,z⟩:=cC b a j;have K:b.length=g:=by have I:=f.1;rw [cU] at I;omega
 have E:=(World.ownsRow.cellAt f (a*2) oM).trans y;have G:=(World.ownsRow.cellAt f (a*2+1) oM).trans z;have X:i.cell? n=some (.int .i64 (d:Int)):=(u.cell 0).trans rfl;obtain ⟨P,o⟩:=gS f;have T:=o.frozen (a*2);have U:=o.lt;have V:=u.lt;have k:=kW j;have t:=fun M=>jU M j;obtain ⟨c,s⟩:=eqx (aC b a);obtain ⟨L,r⟩:=eqx (aJ b a);rw [s] at E k J;rw [r] at G k t;rw [s,r];obtain ⟨w,C,D⟩:=hqq3 f k t;clear f j u y z o k t K s r;by_cases W:d < c
 · have O:decide ((c:Int) > (d:Int))=true:=zBz oM;have Q:IntKind.i64.wrap ((c:Int) - 1)=((c - 1:Nat):Int):=(by rw [IntKind.wrap_i64];omega);have q:=(World.ownsRow.stored w.out (a*2) (.int .i64 ((c - 1:Nat):Int))).1;rw [D.out] at q;have B:=lhd q;clear q;go_enter func215,ntmps215;go_wp2_with fail;go_quiet (fail);go_wp2_with fail;go_end0;refine ⟨rfl,?_,Keep.setCell (F:=fun l=>l=e) ((Keep.refl _ _).drewN _) (p:=⟨e,a*2,none⟩) (.inl rfl) _⟩;have m:aU (c) d=c - 1:=(by unfold aU;rw [zBx oM]);rw [m];exact B.out
 · have O:decide ((c:Int) > (d:Int))=false:=zBy oM;go_enter func215,ntmps215;go_wp2_with fail;go_quiet (fail);go_wp2_with fail;go_end0;refine ⟨rfl,?_,(Keep.refl _ _).drewN _⟩;have m:aU (c) d=c:=(by unfold aU;rw [zBw oM]);rw [m,C.out];exact w.out
def aC2 {v e g x n d:Nat} (a:Nat) {b:List (Nat×Nat)} {i:World} (f:i.ownsRow v 112 2 (.slice (some e) g x) g (bG b)) (j:a < b.length) (u:Bk i n 3 #[(d:Int)]) (J:aJ b a<=1000000000000):
 Calls prog 217 #[.pointer (some ⟨e,a*2,none⟩),n] i fun H A=>H=.returned (.tuple #[])/\A.ownsRow v 112 2 (.slice (some e) g x) g (bG (b.set a (aC b a,aU (aJ b a) d)))/\Keep (fun l=>l=e) i A:=by
 obtain ⟨y,z⟩:=cC b a j;have K:b.length=g:=by have I:=f.1;rw [cU] at I;omega
 have E:=(World.ownsRow.cellAt f (a*2) oM).trans y;have G:=(World.ownsRow.cellAt f (a*2+1) oM).trans z;have X:i.cell? n=some (.int .i64 (d:Int)):=(u.cell 0).trans rfl;obtain ⟨O,o⟩:=gS f;have Q:=o.frozen (a*2+1);have T:=o.lt;have U:=u.lt;have k:=kW j;have t:=fun L=>mV b a L j;obtain ⟨W,s⟩:=eqx (aC b a);obtain ⟨c,r⟩:=eqx (aJ b a);rw [s] at E k t;rw [r] at G k J;rw [s,r];obtain ⟨w,C,D⟩:=hqq3 f k t;clear f j u y z o k t K s r;by_cases V:d < c
 · have M:decide ((c:Int) > (d:Int))=true:=zBz oM;have P:IntKind.i64.wrap ((c:Int) - 1)=((c - 1:Nat):Int):=(by rw [IntKind.wrap_i64];omega);have q:=(World.ownsRow.stored w.out (a*2+1) (.int .i64 ((c - 1:Nat):Int))).1;rw [D.out] at q;have B:=lhd q;clear q;go_enter func217,ntmps217;go_wp2_with fail;go_quiet (fail);go_wp2_with fail;go_end0;refine ⟨rfl,?_,Keep.setCell (F:=fun l=>l=e) ((Keep.refl _ _).drewN _) (p:=⟨e,a*2+1,none⟩) (.inl rfl) _⟩;have m:aU (c) d=c - 1:=(by unfold aU;rw [zBx oM]);rw [m];exact B.out
 · have M:decide ((c:Int) > (d:Int))=false:=zBy oM;go_enter func217,ntmps217;go_wp2_with fail;go_quiet (fail);go_wp2_with fail;go_end0;refine ⟨rfl,?_,(Keep.refl _ _).drewN _⟩;have m:aU (c) d=c:=(by unfold aU;rw [zBw oM]);rw [m,C.out];exact w.out
def xX {m j p k l:Nat} {f s t r:Value} {R n:Nat} {c:List Nat} {b:List (Nat×Nat)} {q:List Bool} {o:List Nat} {g:World} (v:PermAt g m j p f s t r R n c b q o) (C:c.Nodup) (B:c.length<=1000000) (E:Bk g k 3 #[(l:Int)]) (z:∀e,f.ownBlock=some e->e≠k) (w:∀a,a∈c->aC b a<=1000000000000/\aJ b a<=1000000000000):
 Calls prog 214 #[j,.func (.func 215) #[] #[k]] g fun i u=>i=.returned (.tuple #[])/\Keep (fun e=>f.ownBlock=some e) g u/\∃d,d.length=b.length/\(∀a,a∈c->(aC d a,aJ d a)=(aU (aC b a) l,aJ b a))/\PermAt u m j p f s t r R n c d q o:=
 nQ (fun G F=>(aU G l,F)) v C B w (kJ func215 kR kR) fun _ _ _ a _ _ A D x y=>aC0 a D x (A.bk E fun i=>z _ i rfl) y.1
def xY {m j p k l:Nat} {f s t r:Value} {R n:Nat} {c:List Nat} {b:List (Nat×Nat)} {q:List Bool} {o:List Nat} {g:World} (v:PermAt g m j p f s t r R n c b q o) (C:c.Nodup) (B:c.length<=1000000) (E:Bk g k 3 #[(l:Int)]) (z:∀e,f.ownBlock=some e->e≠k) (w:∀a,a∈c->aC b a<=1000000000000/\aJ b a<=1000000000000):
 Calls prog 214 #[j,.func (.func 217) #[] #[k]] g fun i u=>i=.returned (.tuple #[])/\Keep (fun e=>f.ownBlock=some e) g u/\∃d,d.length=b.length/\(∀a,a∈c->(aC d a,aJ d a)=(aC b a,aU (aJ b a) l))/\PermAt u m j p f s t r R n c d q o:=
 nQ (fun G F=>(G,aU F l)) v C B w (kJ func217 kR kR) fun _ _ _ a _ _ A D x y=>aC2 a D x (A.bk E fun i=>z _ i rfl) y.2
end
end Go.Proofs.YtcoooelofcejbaaGreatDoor
