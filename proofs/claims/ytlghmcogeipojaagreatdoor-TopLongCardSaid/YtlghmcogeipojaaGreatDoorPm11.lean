/- Lemmas of the walk. Conditions: each its own. -/
import Derived.Test.YtlghmcogeipojaaGreatDoorPm10
set_option linter.all false
set_option maxRecDepth 100000
set_option maxHeartbeats 8000000
open Go.Proofs.Tryz
namespace Go.Proofs.YtlghmcogeipojaaGreatDoor
open Go.RowKit
def StAt.save {w d gs gl aA rate own b c} (a:StAt w d own gs gl aA rate b) (j:IsSuf (aG b) c):
 Calls prog 24 #[gl,(aA:Int)] w (gJ w d (fC (aH (aG b) c) c aA rate b.length)):=by
 obtain ⟨n,gk,k,m,e,f,i,l,g⟩:=a.tp;obtain rfl:=e.unique j;exact vF f i e g a.r1 a.r2 a.len a.max
def tP {Bw own gs gl aA rate t rs w} (n:StAt w Bw own gs gl aA rate t) (x:IsSuf (aG t) rs):
 Calls prog 10 #[gs] w (gJ w Bw (fC (aH (aG t) rs) rs aA rate t.length)):=by
 have y:∀w1,VB Bw w w1->Calls prog 24 #[gl,(aA:Int)] w1 (gJ w1 Bw (fC (aH (aG t) rs) rs aA rate t.length)):=λw1 q=>(n.G q.1).save x;obtain ⟨k,v⟩:=eqx (fC (aH (aG t) rs) rs aA rate t.length);rw [v] at y⊢;obtain ⟨f,e⟩:=eqx k.length;have s:=e;have u:=n.a;clear n x v e;unfold gJ;rw [s];go_enter func10,ntmps10;go_wp2_with fail;refine wp_region_any kR<|aQ (S:=(VB Bw)) (V:=(Vs [is gs,is gs,is gs,is gl,is gs,is gs,is (.pointer (some ⟨gs,1,none⟩)),is (aA:Int),λg i=>∃a b,g=.tuple #[.slice a f b,o0]/\Made i w.heap.size 5 1 a f b (k.map bv),λg i=>∃a b,g=.slice a f b/\Made i w.heap.size 5 1 a f b (k.map bv),is o0,λg i=>∃a b,g=.slice a f b/\Made i w.heap.size 5 1 a f b (k.map bv),is o0])) [6,7,8,9,10,11,12,13,14,15,16,2,3] _ rfl kR vR (λ_ _=>VisK.trans) (dI (by repeat' (first | exact jN _ _ | exact lE _ | exact λ_ _ _ ⟨A,C,H,I⟩ q=>⟨A,C,H,q.1.made I dC dC⟩|(refine zAe.2 ⟨?_,?_⟩)|(intro X K;cases K)))) ?_ ?_
 .refine aL<|pH 0 (.pointer (some gs))<|pV 0 6<|pV 1 7<|sC (λ_ j c _ _ _ d _ _ _ e=>?_) ?_
  .have U:_=_:=d 2 8 kR rfl;replace c:(VB Bw) w j:=bD c;have o:=c.1.d u dC dC;have D:=o.cell 0;go_simp;exact e _ _ vR rfl
  refine pH 0 (.pointer (some gs))<|pV 4 10<|pV 5 11<|sC (λ_ j c _ _ _ d _ _ _ e=>?_) ?_
  .have P:_=_:=d 6 12 kR rfl;replace c:(VB Bw) w j:=bD c;have o:=c.1.d u dC dC;have D:=o.cell 1;go_simp;exact e _ _ vR rfl
  refine sC (λ_ j c _ _ _ d _ _ _ e=>?_) ?_
  .have W:_=_:=d 3 9 kR rfl;have Q:_=_:=d 7 13 kR rfl;replace c:(VB Bw) w j:=bD c;go_simp;have p:=y j c;unfold gJ at p;rw [s] at p;refine p.mono ?_;rintro O Y ⟨a,b,rfl,m,L⟩;exact e _ _ L ⟨a,b,rfl,m.mono c.1.size⟩
  refine sC (λl j _ _ _ _ d _ _ _ e=>?_) ?_
  .have r:(λg i=>∃a b,g=.tuple #[.slice a f b,o0]/\Made i w.heap.size 5 1 a f b (k.map bv)) (l (.tmp 14)) j:=d 8 14 kR rfl;obtain ⟨a,b,E,m⟩:=r;go_simp;exact e _ _ vR ⟨a,b,rfl,m⟩
  refine sC (λl j _ _ _ _ d _ _ _ e=>?_) ?_
  .have r:(λg i=>∃a b,g=.tuple #[.slice a f b,o0]/\Made i w.heap.size 5 1 a f b (k.map bv)) (l (.tmp 14)) j:=d 8 14 kR rfl;obtain ⟨a,b,E,m⟩:=r;go_simp;exact e _ _ vR rfl
  refine sC (λl j _ _ _ _ d _ _ _ e=>?_) ?_
  .have M:(λg i=>∃a b,g=.slice a f b/\Made i w.heap.size 5 1 a f b (k.map bv)) (l (.tmp 15)) j:=d 9 15 kR rfl;obtain ⟨a,b,R,m⟩:=M;go_simp;exact e _ _ vR ⟨a,b,rfl,m⟩
  refine pV 10 16 ?_;exact aB
 .intro l z c d;replace c:(VB Bw) w z:=bD c;have N:(λg i=>∃a b,g=.slice a f b/\Made i w.heap.size 5 1 a f b (k.map bv)) (l (.tmp 2)) z:=d 11 2 rfl;have G:l (.tmp 3)=.int .i64 0:=d 12 3 rfl;simp only [zqq];rw [G];clear d;obtain ⟨a,b,F,J⟩:=N;rw [F];go_wp2_with fail;go_ret2;exact ⟨a,b,rfl,J,c⟩
def aCE (w:World) (d:Nat) (g:List UInt8) (e a:Nat) (f:Ending) (w':World):Prop:=
 ∃b c,f=.returned (.tuple #[.slice b a c,o0])/\Made w' w.heap.size 5 1 b a c (((g.drop e).take a).map bv)/\VB d w w'
def aCD {l gl rate e} (d t) {w} (A:TpAt w l gl e rate) (a3:TabW w) (aw:0 < l) (bu:d+t<=e.length):
 Calls prog 18 #[gl,(d:Int),(t:Int)] w (aCE w l e d t):=by
 obtain ⟨bE,bq,ag,bA,bD⟩:=info_parts yY;obtain ⟨u,gk,bl,c6,K,I,aP,ag,aF⟩:=A;have az:u.length=e.length+1:=by rw [K.len,aO]
 have a1:(aH (aG e) u).length=e.length+1:=by rw [bY,az]
 have V:∀o,o<=e.length->∃D,u[D]?=some o:=λo aM=>by obtain ⟨D,br,j⟩:=K.row (p:=o) (by rw [aO];omega);exact ⟨D,zAc.2 ⟨br,j⟩⟩
 have aL:∀(m D o:Nat) (g:UInt8),u[m]?=some (o+1)->u[D]?=some o->e[o]?=some g->(aH (aG e) u)[m]?=some (g.toNat+1)/\cR (aH (aG e) u) (g.toNat+1) m=D:=λm D o g Z a0 Q=>aK1 K Z a0 Q;obtain ⟨m,a9⟩:=V d oM;have aN:=gP l gl gk bl rate w I aP K aF a9;obtain ⟨c5,a6⟩:=I.a;clear aP ag;obtain ⟨P,a2⟩:=eqx e.length;rw [a2] at a1 V bu aF;have c3:0 < w.heap.size:=a3.pos;have bZ:=a6.lt;have bH:decide ((d:Int) < 0)=false:=zs
 have bI:decide ((t:Int) < 0)=false:=zs
 have aT:¬P < d:=oM;have bK:=zBy aT;obtain ⟨Y,bp⟩:=eqx (P - d);have bL:IntKind.i64.wrap (P -d)=(Y:Int):=zu
 have aU:¬Y < t:=oM;have bM:=zBy aU;obtain ⟨am,ar,ak,ba,b7,N⟩:=hqq6 I.ai I.walk a6 V aL a1;have ai:=lhd (dR (eX e) (rs:=u));obtain ⟨b2,aj,b0⟩:=hqq3 a9 a3 a2;clear a6 I V aL a1 a9 a3 K az a2 bp;unfold aCE;go_enter func18,ntmps18;go_wp2_with fail;refine (cD am N oM).mono ?_;rintro j w1 ⟨rfl,rfl⟩;go_wp2_with fail;refine (cD am N oM).mono ?_;rintro j w1 ⟨rfl,rfl⟩;go_wp2_with fail;refine aN.mono ?_;rintro j q ⟨rfl,aQ⟩;have bd:=lhd aQ;clear aN aQ bH bI aT bK bL aU bM;go_wp2_with fail;go_loopw [8,9,40] (λbO r m wr=>∃a row:Nat,a<=t/\m=.int .i64 a/\r=.int .i64 row/\u[row]?=some (d+a)/\wr.ownsRow w.heap.size 5 1 bO a (((e.drop d).take a).map bv)/\VB l w wr) (λ_ _ m _=>t -(intOf m).toNat)
 case atStart=>exact ⟨0,m,zAp _,rfl,rfl,b2,ki _ _ _ _,bd⟩
 case round=>
  obtain ⟨a,row,S,rfl,rfl,ab,U,C⟩:=hrel;by_cases c0:a < t
  .obtain ⟨g,a8⟩:∃g,e[d+a]?=some g:=⟨_,zAa (by rw [b0.out];omega)⟩;obtain ⟨X,ac⟩:=ba (d+a+1) oM;obtain ⟨ad,ae⟩:=b7 X row (d+a) g ac ab a8;obtain ⟨aX,af⟩:∃aX,aX=g.toNat+1:=⟨_,rfl⟩;rw [<-af] at ad ae;have aJ:((e.drop d).take (a+1)).map bv=((e.drop d).take a).map bv++ [bv g]:=(by rw [zAv,zBt,a8,zAz];rfl);have a5:=C.1.d ak dC dC;have bf:=a5.cell 0;have bF:=a5.lt;have c2:=C.1.size;have aS:=ar.b C.1;obtain ⟨au,bc,ao,ap,an,aq,b5,bb⟩:=hqq8 aS af ad ae U C aJ ac;clear ac ad ae U C aJ a5 aS ab a8 af;go_wp2_with fail;refine (sN au ao ap ai (by rw [N.out];omega)).mono ?_;rintro j bR ⟨rfl,a4⟩;go_wp2_with fail;refine (yG bc bR).mono ?_;rintro j z ⟨rfl,ay⟩;have E:Below wr.heap.size wr z:=a4.trans (ay.mono a4.size);have J:=(kc (F:=λb=>l<=b) E).1.own an dC dC;have W:=aq.below E;have a7:=W.1.d ak dC dC;have aD:∀b,u8.ownBlock=some b->b < z.heap.size:=λb H=>(J.lt b H).2;have aC:∀b,u8.ownBlock=some b->w.heap.size<=b:=λb H=>(J.lt b H).1;have aK:¬u8.ownBlock=some gl:=λj=>bC J a7 dC j.symm;have bw:=W.1.size;obtain ⟨b8,O,b1,b3,al,b6⟩:=hqq6 J W a7 aD aC aK;clear a4 ay E J W a7 aD aC aK bf bF an aq au;go_wp2_with fail;refine wp_region_any kR<|cC (pJ:=(λr q=>q.ownsRow w.heap.size 5 1 r (a+1) (((e.drop d).take a).map bv++ [bv g]))) l 10 [52,53,54,55,56,57,58,59,60,61] (λb=>u8.ownBlock=some b) 3 [3] [is (u8),is (bv g),λr q=>∃y,r=.slice (some ⟨y,0,none⟩) 1 1/\Bk q y 5 #[bv g]/\u8.ownBlock≠some y,cO,is gl,is gl,is gl,is gk,is (row:Int),is (X:Int)] _ rfl dC kR kR kR (b8) (λw1 q A _ a=>a.1.own A dC dC) (λ_ _ _ A a=>a.1.own A dC dC) (by repeat' (first | exact jN _ _ | exact lE _ | exact λ_ _ _ ⟨y,Z,a0,Q⟩ a=>⟨y,Z,a.1.d a0 dC dC Q,Q⟩|(refine zAe.2 ⟨?_,?_⟩)|(intro o aM;cases aM))) ?_ ?_
   .refine bB<|pH3 8 (u8)<|pH3 10 (bv g)<|sC3 (λ_ v c _ _ _ _ k _ _ _ n=>?_) ?_
    .replace c:VFB l (λb=>u8.ownBlock=some b) z v:=fD c;have av:_=_:=k 1 53 kR rfl;go_simp;exact n _ _ (aI (vR.alloc _)) ⟨_,rfl,kd _ _ _,λA=>by have:=(b3 _ A);have:=c.1.size;omega⟩
    refine sC3 (λG v c bm _ _ _ k _ _ bn n=>?_) ?_
    .replace c:VFB l (λb=>u8.ownBlock=some b) z v:=fD c;have bt:=bm rfl;have bh:_=_:=k 0 52 kR rfl;have bN:(λr q=>∃y,r=.slice (some ⟨y,0,none⟩) 1 1/\Bk q y 5 #[bv g]/\u8.ownBlock≠some y) (G (.tmp 54)) v:=k 2 54 kR rfl;obtain ⟨bj,av,bo,c1⟩:=bN;subst bn;have bz:=c.1.size;refine fK v (.tmp 52) (.tmp 54) _ rfl w.heap.size 5 bE (.int .u8 0) 1 1 underlying22 bq ag bA bD rfl dC u8 a _ bh bt v.heap.size (some ⟨bj,0,none⟩) 1 1 [bv g] av (aGt bo) (by simp [Value.oneCell',bv]) zx oM (zAk bw bz) ?_;intro bP M bs s bX;refine n _ _ (lC ⟨VisF.O ⟨s.os,s.tape,s.output,s.size,λa S aa=>s.block a S (λj=>aa j.symm)⟩,⟨s.os,s.tape,s.output,s.size,λa S aa=>s.block a S (λj=>aa (.inl j.symm))⟩⟩) bs
    refine pH3 0 (.pointer (some gl))<|pV3 4 56<|pV3 5 57<|sC3 (λ_ v c _ _ _ _ k _ _ _ n=>?_) ?_
    .replace c:VFB l (λb=>u8.ownBlock=some b) z v:=fD c;have bU:_=_:=k 6 58 kR rfl;have E:=c.1.d b1 dC dC b6;have bS:=E.cell 0;have c4:=E.lt;go_simp;exact n _ _ (aI vR) rfl
    refine pH3 9 (.int .i64 row)<|sC3 (λ_ v c _ _ R _ k _ _ _ n=>?_) ?_
    .replace c:VFB l (λb=>u8.ownBlock=some b) z v:=fD c;have bV:_=_:=k 7 59 kR rfl;have bW:_=_:=k 8 60 kR rfl;go_simp;have L:=(VFB.trans (VFB.i O) c).y (λb H R=>by have:=(al b R);omega);refine (tM (ar.b L.1) ao ap ai (by rw [N.out];omega) (aj.G L aw aj.pos) aw).mono ?_;rintro j c7 ⟨rfl,bx⟩;exact n _ _ (aI bx) rfl
    exact aB
   .intro G M x c k ax;replace c:VFB l (λb=>u8.ownBlock=some b) z M:=fD c;have ah:(λr q=>q.ownsRow w.heap.size 5 1 r (a+1) (((e.drop d).take a).map bv++ [bv g])) (G (.tmp 55)) M:=k 3 55 dC rfl;have bi:G (.tmp 61)=.int .i64 X:=k 9 61 dC rfl;obtain ⟨bQ,aW⟩:=ax 3 dC;have aV:(λr q=>q.ownsRow w.heap.size 5 1 r (a+1) (((e.drop d).take a).map bv++ [bv g])) bQ M:=aW;clear aW ax;simp only [zqq];rw [bi];clear k;have L:=(VFB.trans (VFB.i O) c).y (λb H R=>by have:=(al b R);omega);change wpAny prog Region.Mode.any _ _ (2+x) (bT 10 12) _ M;rw [show 2+x=x+1+1 by omega];generalize G (.tmp 55)=bP at ah⊢;obtain ⟨b9,be⟩:=hqq2 ah L;clear ah L c aV;refine aY (f:=x+1) (i:=10) kR ?_;refine bJ rfl rfl ?_;generalize n:wpAny prog _ _ _ (x+1) _=K5;go_simp;subst n;refine aY (f:=x) (i:=11) kR ?_;refine bJ rfl rfl ?_;generalize n:wpAny prog _ _ _ x _=K5;go_simp;subst n;refine bG kR ?_;go_wp2_with fail;go_roundw
    case rel=>exact ⟨a+1,X,by omega,by go_num,by first | rfl | trivial,bb,by rw [b5.out];exact b9,be⟩
    case measure=>exact zr
  .obtain rfl:a=t:=oM;obtain ⟨aZ,bg,rfl,aE⟩:=aR U;obtain ⟨b4,O⟩:=hqq2 aE C;clear U aE C ab;go_wp2_with fail;go_ret2;exact ⟨aZ,bg,rfl,b4,O⟩
def Made.lf {w w' m B own own' a f c e d g} (b:Made w B a f d c e g) (s:LF m w w' own own') (q:a≠223) (r:a≠181) (hB:∀i,B<=i->own i=0):Made w' B a f d c e g:=by
 have k:w'.ownsRow B a f (.slice d c e) c g:=by refine ⟨b.own.1,?_⟩;rcases b.own.2 with t |⟨j,n,o,u,l,v,x⟩;exact .inl t;exact .inr ⟨j,n,o,u,l,s.b.d v q r (λp=>p (hB j l)),x⟩
 exact ⟨k,Rd.s k,b.cap,b.max⟩
def aKK {w b g a d} (c:Bk w b g a) (e:a.size=d):Rd w w.heap.size 1 (some ⟨b,0,none⟩) d a.toList:=by
 refine ⟨by simp [e],λ_=>⟨_,0,rfl,c.lt,λi j f=>?_⟩⟩;rw [zBi,c.cell];simpa using f
def StDone (w:World) (B:Nat) (own:Nat->Nat) (gs aA rate:Nat) (T:List UInt8) (b:Told) (g:Ending) (w':World):Prop:=
 ∃c e d f own' i,g=.returned (.agg (iD b c e d f))/\StAt w' B own' gs i aA rate T/\LFS B gs w w' own own'/\Made w' w.heap.size 5 1 c b.data.length e (b.data.map bv)/\Made w' w.heap.size 3 1 d b.places.length f (b.places.map nv)/\(∀a,c=some a->own' a.block=0)/\(∀a,d=some a->own' a.block=0)
section
variable {w w1 w' : World} {B gs gl aA rate : Nat} {own own' : Nat -> Nat} {T : List UInt8}
def LFS.put (a:LFS B gs w w1 own own') {p} (c:w.heap.size<=p.block) (hB:B<=p.block) (b):LFS B gs w (w1.setCell p b) own own':=
 ⟨a.H,VisF.put a.b (.inr c) b,a.keep.setCell (.inr c) b⟩
def StAt.put (e:StAt w B own gs gl aA rate T) {p} (f:Ap own gs p.block) (b):StAt (w.setCell p b) B own gs gl aA rate T:=
 e.m (ka (F:=λa=>a=p.block) (ke _ _) (.inl rfl) b) λa c=>by have d:a=p.block:=c;rw [d];exact f
def jW {b i j a} {m l:_} {d g e c} (n:Made w d a 1 c g e l) (o:Bk w b j m) (q:a≠j) (k):Made (w.setCell ⟨b,i,none⟩ k) d a 1 c g e l:=
 wN n λr s f=>f.m (p:=⟨b,i,none⟩) (Bk.ne f o q) k
def mS {u a E F G H b c s d t e k num g j} {q:Exit} (L:q=.ret∨q=.normal) (Q:u.getD 4 undef=.pointer (some a)) (r:Bk w1 a 29 #[E,F,G,H]) (S:StAt w1 B own' gs gl aA rate T) (M:LFS B gs w w1 own own') (U:B<=w.heap.size) (n:w.heap.size<=a) (m:Ap own' gs a) (K:g.length=s) (R:j.length=t) (N:Made w1 w.heap.size 5 1 b s d (g.map bv)) (O:Made w1 w.heap.size 3 1 c t e (j.map nv)) (C:∀l,b=some l->own' l.block=0) (D:∀l,c=some l->own' l.block=0):
 bodyPost prog f7 (StDone w B own gs aA rate T ⟨k,num,g,j⟩) q ⟨u, []⟩ ((((w1.setCell a (.int .i64 k)).setCell ⟨a,1,none⟩ (.int .i64 num)).setCell ⟨a,2,none⟩ (.slice b s d)).setCell ⟨a,3,none⟩ (.slice c t e)):=by
 subst K R;have b1:=r.set 0 (.int .i64 k);have b2:=b1.set 1 (.int .i64 num);have o:=b2.set 2 (.slice b g.length d);have I:=o.set 3 (.slice c j.length e);have hB:B<=a:=oM;have y:=(((S.put (p:=a) m (.int .i64 k)).put (p:=⟨a,1,none⟩) m (.int .i64 num)).put (p:=⟨a,2,none⟩) m (.slice b g.length d)).put (p:=⟨a,3,none⟩) m (.slice c j.length e);have v:=(((M.put (p:=a) n hB (.int .i64 k)).put (p:=⟨a,1,none⟩) n hB (.int .i64 num)).put (p:=⟨a,2,none⟩) n hB (.slice b g.length d)).put (p:=⟨a,3,none⟩) n hB (.slice c j.length e);have z:=jW (i:=3) (jW (i:=2) (jW (i:=1) (jW (i:=0) N r dC (.int .i64 k)) b1 dC (.int .i64 num)) b2 dC (.slice b g.length d)) o dC (.slice c j.length e);have A:=jW (i:=3) (jW (i:=2) (jW (i:=1) (jW (i:=0) O r dC (.int .i64 k)) b1 dC (.int .i64 num)) b2 dC (.slice b g.length d)) o dC (.slice c j.length e);have J:Bk ((((w1.setCell a (.int .i64 k)).setCell ⟨a,1,none⟩ (.int .i64 num)).setCell ⟨a,2,none⟩ (.slice b g.length d)).setCell ⟨a,3,none⟩ (.slice c j.length e)) a 29 (iD ⟨k,num,g,j⟩ b d c e):=by simpa [iD] using I
 have x:=results_cell_row (P:=prog) (fn:=f7) (p:=4) (ty:=29) rfl u _ a 29 (iD ⟨k,num,g,j⟩ b d c e) (0,0) _ Q J underlying29 rfl kR;rcases L with rfl | rfl;exact bodyPost_ret x rfl ⟨b,d,c,e,own',gl,rfl,y,v,z,A,C,D⟩;exact bodyPost_end x rfl ⟨b,d,c,e,own',gl,rfl,y,v,z,A,C,D⟩
end
structure DoW (w W:World) (B:Nat) (own:Nat->Nat) (gs gl aA rate:Nat) (t:List UInt8) (kind p n:Int) (A:Option Addr) (m c:Nat):Prop where
 low:Below w.heap.size w W
 box:Bk W w.heap.size 32 #[(kind:Int),(p:Int),(n:Int),.slice A m c]
 wQ:Bk W (w.heap.size+1) 29 #[o0,o0,(),()]
 st:StAt W B own gs gl aA rate t
 ap:Ap own gs (w.heap.size+1)
 sz:W.heap.size=w.heap.size+2
 fr:∀b,w.heap.size<=b->own b=0
 bs:B<=w.heap.size
def DoW.mk' {w B own gs gl aA rate k} (e i g b f c) (a:StAt w B own gs gl aA rate k):
 DoW w ((w.alloc (.cells #[(e:Int),(i:Int),(g:Int),.slice b f c] 32)).alloc (.cells #[o0,o0,(),()] 29)) B own gs gl aA rate k e i g b f c:=by
 have d:Below w.heap.size w ((w.alloc (.cells #[(e:Int),(i:Int),(g:Int),.slice b f c] 32)).alloc (.cells #[o0,o0,(),()] 29)):=(bR.alloc nL _).alloc zs _;have j:=kd (w.alloc (.cells #[(e:Int),(i:Int),(g:Int),.slice b f c] 32)) 29 #[o0,o0,(),()];rw [sZ0] at j;exact ⟨d,(kd w _ _).alloc _,j,a.G (kb d),⟨a.fresh oM,by have:=a.a.lt;omega⟩,by rw [sZ0,sZ0],λl d=>a.fresh d,a.size⟩
def fO {B own gs gl aA rate s} (m) {c} (l k f j g n) {w} (p:StAt w B own gs gl aA rate s) (x:c=1∨c=2∨c=3) (r:∀d,StAt d B own gs gl aA rate s->LFS B gs w d own own->Calls prog 16 #[gs,.agg #[(c:Int),(l:Int),(k:Int),.slice f j g]] d λo w'=>o=.returned (.int .i64 n)/\∃own',StAt w' B own' gs gl aA rate m/\LFS B gs d w' own own'):
 Calls prog 7 #[gs,bK c l k f j g] w (StDone w B own gs aA rate m ⟨n,0, [], []⟩):=by
 have a:=DoW.mk' c l k f j g p;have q:=r _ a.st (LFS.j B gs own a.low);have A:=a.box.cell 0;have C:=a.box.cell 1;have D:=a.box.cell 2;have E:=a.box.cell 3;clear r p;unfold bK;rcases x with rfl | rfl | rfl
 all_goals
  go_enter func7,ntmps7;go_wp2_with fail;refine q.mono ?_;rintro o w1 ⟨rfl,own',z,e⟩;have b:=e.d a.wQ a.ap.x a.ap.ne dC dC;have v:=a.ap.step e a.wQ.lt;have y:=(LFS.j B gs own a.low).trans e;have t:=a.bs;have J:=b.cell 0;have K:=b.cell 1;have L:=b.cell 2;have M:=b.cell 3;have F:=b.frozen 0;have G:=b.frozen 1;have H:=b.frozen 2;have I:=b.frozen 3;clear e q a;go_wp2_with fail;exact mS (.inl rfl) rfl b z y t oM v rfl rfl (aV _ _ _) (aV _ _ _) (λu i=>by cases i) (λu i=>by cases i)
def aA7 {B own gs gl aA rate e} (y x g v i) {w} (n:StAt w B own gs gl aA rate e):
 Calls prog 7 #[gs,bK 8 y x g v i] w (StDone w B own gs aA rate e ⟨0,0, [], []⟩):=by
 obtain ⟨d,f⟩:∃d,IsSuf (aG e) d:=by obtain ⟨d,gk,N,U,f,_⟩:=n.tp;exact ⟨d,f⟩
 have a:=DoW.mk' 8 y x g v i n;have l:=tP a.st f;unfold gJ at l;obtain ⟨S,p⟩:=eqx ((fC (aH (aG e) d) d aA rate e.length).length);rw [p] at l;have r:=λg i w1 (c:StAt w1 B own gs gl aA rate e)=>aA4 g i c f c.n127 c.r1 c.r2 c.len c.max p;have H:=a.box.cell 0;clear n p f;unfold bK;go_enter func7,ntmps7;go_wp2_with fail;refine l.mono ?_;rintro D w1 ⟨z,C,rfl,k,m⟩;have u:=a.st.G m.1;have t:=(LFS.j B gs own a.low).trans (LFS.i gs own m);have q:=m.1.d a.wQ dC dC;have s:=r z C w1 u k.rd k.cap k.max;clear u k m l r;go_wp2_with fail;refine s.mono ?_;rintro D V ⟨rfl,own',M,G,j⟩;have b:=j.d q a.ap.x a.ap.ne dC dC;have E:=a.ap.step j q.lt;have F:=t.trans j;have O:=b.cell 0;have P:=b.cell 1;have Q:=b.cell 2;have R:=b.cell 3;have I:=b.frozen 0;have J:=b.frozen 1;have K:=b.frozen 2;have L:=b.frozen 3;clear j s t q;go_wp2_with fail;exact mS (.inl rfl) rfl b G F a.bs oM E rfl rfl (aV _ _ _) (aV _ _ _) (λA o=>by cases o) (λA o=>by cases o)
def oT {B own gs gl aA rate G} (r u y E z) {w} (A:StAt w B own gs gl aA rate G) (l n nd) (Z:l.length=nd) (M:∀m,StAt m B own gs gl aA rate G->LFS B gs w m own own->Calls prog 18 #[gl,(r:Int),(u:Int)] m λJ w'=>∃a b,J=.returned (.tuple #[.slice a nd b,(n:Int)])/\Made w' m.heap.size 5 1 a nd b (l.map bv)/\VB B m w'):
 Calls prog 7 #[gs,bK 5 r u y E z] w (StDone w B own gs aA rate G ⟨n,0,l, []⟩):=by
 have i:=DoW.mk' 5 r u y E z A;have x:=λe (t:VB B _ e)=>M e (i.st.G t.1) ((LFS.j B gs own i.low).trans (LFS.i gs own t));have ak:=A.a.lt;have O:=i.box.cell 0;have P:=i.box.cell 1;have Q:=i.box.cell 2;have a7:=i.st.a.cell 0;have H:=x;clear x A M;unfold bK;go_enter func7,ntmps7;go_wp2_with fail;generalize (w.alloc (.cells #[(5:Int),(r:Int),(u:Int),.slice y E z] 32)).alloc (.cells #[o0,o0,(),()] 29)=m at*
 clear O P Q a7;refine wp_region_any kR<|aQ (S:=(VB B)) (V:=(Vs [is gs,is gs,is gs,is gl,is (.pointer (some ⟨w.heap.size,1,none⟩)),is (.int .i64 r),is (.pointer (some ⟨w.heap.size,2,none⟩)),is (.int .i64 u),λf g=>∃a b,f=.tuple #[.slice a nd b,(n:Int)]/\Made g w.heap.size 5 1 a nd b (l.map bv),λf g=>∃a b,f=.tuple #[.slice a nd b,(n:Int)]/\Made g w.heap.size 5 1 a nd b (l.map bv),λf g=>∃a b,f=.slice a nd b/\Made g w.heap.size 5 1 a nd b (l.map bv),is (.int .i64 n),λf g=>∃a b,f=.slice a nd b/\Made g w.heap.size 5 1 a nd b (l.map bv),is (.int .i64 n)])) [34,35,36,37,38,39,40,41,42,33,43,44,5,6] _ rfl kR vR (λ_ _=>VisK.trans) (dI (by repeat' (first | exact jN _ _ | exact lE _ | exact λ_ _ _ ⟨a,b,U,W⟩ t=>⟨a,b,U,t.1.made W dC dC⟩|(refine zAe.2 ⟨?_,?_⟩)|(intro r x;cases x)))) ?_ ?_
 .refine aL<|pH 0 (.pointer (some gs))<|pV 0 34<|pV 1 35<|sC (λ_ e c _ _ _ d _ _ _ j=>?_) ?_
  .have a8:_=_:=d 2 36 kR rfl;replace c:(VB B) m e:=bD c;have X:=c.1.d i.st.a dC dC;have I:=X.cell 0;go_simp;exact j _ _ vR rfl
  refine pH 3 (.pointer (some w.heap.size))<|sC (λ_ e c _ _ _ d _ _ _ j=>?_) ?_
  .have aa:_=_:=d 4 38 kR rfl;replace c:(VB B) m e:=bD c;have D:=c.1.d i.box dC dC;have I:=D.cell 1;go_simp;exact j _ _ vR rfl
  refine pH 3 (.pointer (some w.heap.size))<|sC (λ_ e c _ _ _ d _ _ _ j=>?_) ?_
  .have ac:_=_:=d 6 40 kR rfl;replace c:(VB B) m e:=bD c;have D:=c.1.d i.box dC dC;have I:=D.cell 2;go_simp;exact j _ _ vR rfl
  refine sC (λ_ e c _ _ _ d _ _ _ j=>?_) ?_
  .have a9:_=_:=d 3 37 kR rfl;have ab:_=_:=d 5 39 kR rfl;have ad:_=_:=d 7 41 kR rfl;replace c:(VB B) m e:=bD c;have a2:=c.1.size;go_simp;refine (H e c).mono ?_;rintro J aq ⟨a,b,rfl,v,a1⟩;exact j _ _ a1 ⟨a,b,rfl,⟨cG v.own (zAk i.low.size a2),v.rd,v.cap,v.max⟩⟩
  refine sC (λo e _ _ _ _ d _ _ _ j=>?_) ?_
  .have a4:(λf g=>∃a b,f=.tuple #[.slice a nd b,(n:Int)]/\Made g w.heap.size 5 1 a nd b (l.map bv)) (o (.tmp 42)) e:=d 8 42 kR rfl;obtain ⟨a,b,ae,p⟩:=a4;go_simp;exact j _ _ vR ⟨a,b,rfl,p⟩
  refine sC (λo e _ _ _ _ d _ _ _ j=>?_) ?_
  .have F:(λf g=>∃a b,f=.tuple #[.slice a nd b,(n:Int)]/\Made g w.heap.size 5 1 a nd b (l.map bv)) (o (.tmp 33)) e:=d 9 33 kR rfl;obtain ⟨a,b,R,p⟩:=F;go_simp;exact j _ _ vR ⟨a,b,rfl,p⟩
  refine sC (λo e _ _ _ _ d _ _ _ j=>?_) ?_
  .have F:(λf g=>∃a b,f=.tuple #[.slice a nd b,(n:Int)]/\Made g w.heap.size 5 1 a nd b (l.map bv)) (o (.tmp 33)) e:=d 9 33 kR rfl;obtain ⟨a,b,R,p⟩:=F;go_simp;exact j _ _ vR rfl
  refine sC (λo e _ _ _ _ d _ _ _ j=>?_) ?_
  .have a5:(λf g=>∃a b,f=.slice a nd b/\Made g w.heap.size 5 1 a nd b (l.map bv)) (o (.tmp 43)) e:=d 10 43 kR rfl;obtain ⟨a,b,af,p⟩:=a5;go_simp;exact j _ _ vR ⟨a,b,rfl,p⟩
  refine pV 11 44 ?_;exact aB
 .intro o N c d;replace c:(VB B) m N:=bD c;have a6:(λf g=>∃a b,f=.slice a nd b/\Made g w.heap.size 5 1 a nd b (l.map bv)) (o (.tmp 5)) N:=d 12 5 rfl;have L:o (.tmp 6)=.int .i64 n:=d 13 6 rfl;simp only [zqq];rw [L];clear d;obtain ⟨a,b,K,p⟩:=a6;rw [K];clear K L;have q:=c.1.d i.wQ dC dC;have Y:=(LFS.j B gs own i.low).trans (LFS.i gs own c);have a0:=i.st.G c.1;have a3:∀s,a=some s->own s.block=0:=λs C=>by subst C;exact i.fr _ (p.own.lt (k:=s.block) rfl).1
  have al:=q.cell 0;have am:=q.cell 1;have an:=q.cell 2;have ao:=q.cell 3;have ag:=q.frozen 0;have ah:=q.frozen 1;have ai:=q.frozen 2;have aj:=q.frozen 3;clear c H;go_wp2_with fail;exact mS (.inl rfl) rfl q a0 Y i.bs oM i.ap Z rfl p (aV _ _ _) a3 (λs C=>by cases C)
def sT {B own gs gl aA rate o p} (s x) {k g} (m) {w} (q:StAt w B own gs gl aA rate o) (C:ArgZ w B own gs k g p) (aw:g<=1000000):
 Calls prog 7 #[gs,bK 6 s x k g m] w (StDone w B own gs aA rate o ⟨0,((dY o p).length:Int), [], []⟩):=by
 have l:=DoW.mk' 6 s x k g m q;have a0:p.length=g:=by simpa using C.1.1
 have I:=C.b l.low;have av:=q.a.lt;have K:∀b e,VB B ((w.alloc (.cells #[(6:Int),(s:Int),(x:Int),.slice k g m] 32)).alloc (.cells #[o0,o0,(),()] 29)) b->Bk b e 22 #[.slice k g m]->Calls prog 19 #[gl,.slice (some ⟨e,0,none⟩) 1 1] b λG w'=>G=.returned (.int .i64 ((dY o p).length:Int))/\VB B b w':=λb e M a1=>by
  have a8:TxtAt b B gl o:=by obtain ⟨ac,gk,au,aD,ae,af,aG,aH,ag⟩:=(l.st.G M.1).tp;exact ⟨ac,ae,af.ai,ag⟩
  have Z:=(I.step (LFS.i gs own M)).1;have:=aDz (Bw:=B) (gl:=gl) (t:=o) (A0:=(some ⟨e,0,none⟩)) (m0:=1) (B:=b.heap.size) (ss:=[(⟨k,g,m,p⟩:Sl)]) (w:=b) 1 p (by simp [iV]) a8 (aKK a1 rfl) (λaE L=>by simp at L;subst L;exact Z) nL oM oM;rw [<-aGD,uH] at this;exact this
 obtain ⟨z,N⟩:=eqx ((dY o p).length);rw [N] at K⊢;have S:=l.box.cell 0;clear q C I a0 N;unfold bK;go_enter func7,ntmps7;go_wp2_with fail;generalize (w.alloc (.cells #[(6:Int),(s:Int),(x:Int),.slice k g m] 32)).alloc (.cells #[o0,o0,(),()] 29)=W at*
 clear S;refine wp_region_any kR<|cC (pre:=(λ_=>True)) (pJ:=(λu _=>u=.agg #[o0,(z:Int),(),()])) B 9 [50,51,52,53,54,55,56,57,58] (λ_=>False) 8 [] [is gs,is gs,is gs,is gl,is (.pointer (some ⟨w.heap.size,3,none⟩)),is (.slice k g m),λF E=>∃e,F=.slice (some ⟨e,0,none⟩) 1 1/\Bk E e 22 #[.slice k g m],is (z:Int),cO] _ rfl dC kR kR kR (trivial) (λ_ _ _ _ _=>trivial) (λ_ _ _ q _=>q) (by repeat' (first | exact jN _ _ | exact lE _ | exact λ_ _ _ ⟨e,X,Y⟩ aa=>⟨e,X,aa.1.d Y dC dC (λc=>c)⟩|(refine zAe.2 ⟨?_,?_⟩)|(intro s a6;cases a6))) ?_ ?_
 .refine bB<|pH3 0 (.pointer (some gs))<|pV3 0 50<|pV3 1 51<|sC3 (λ_ b a _ _ _ _ d _ _ _ j=>?_) ?_
  .replace a:VFB B (λ_=>False) W b:=fD a;have ah:_=_:=d 2 52 kR rfl;have r:=a.y (λ_ _ c=>c);have a3:=r.1.d l.st.a dC dC;have U:=a3.cell 0;go_simp;exact j _ _ (aI vR) rfl
  refine pH3 3 (.pointer (some w.heap.size))<|sC3 (λ_ b a _ _ _ _ d _ _ _ j=>?_) ?_
  .replace a:VFB B (λ_=>False) W b:=fD a;have aj:_=_:=d 4 54 kR rfl;have r:=a.y (λ_ _ c=>c);have a4:=r.1.d l.box dC dC;have U:=a4.cell 3;go_simp;exact j _ _ (aI vR) rfl
  refine sC3 (λ_ _ _ _ _ _ _ d _ _ _ j=>?_) ?_
  .have ak:_=_:=d 5 55 kR rfl;go_simp;exact j _ _ (aI (vR.alloc _)) ⟨_,rfl,kd _ _ _⟩
  refine sC3 (λA b a _ _ _ _ d _ _ _ j=>?_) ?_
  .replace a:VFB B (λ_=>False) W b:=fD a;have ai:_=_:=d 3 53 kR rfl;have ab:(λF E=>∃e,F=.slice (some ⟨e,0,none⟩) 1 1/\Bk E e 22 #[.slice k g m]) (A (.tmp 56)) b:=d 6 56 kR rfl;have r:=a.y (λ_ _ c=>c);obtain ⟨V,al,a2⟩:=ab;go_simp;refine (K b V r a2).mono ?_;rintro G aF ⟨rfl,a9⟩;exact j _ _ (aI a9) rfl
  refine sC3 (λ_ _ _ _ _ _ _ d _ _ _ j=>?_) ?_
  .have am:_=_:=d 7 57 kR rfl;go_simp;exact j _ _ (lC (VFB.i vR)) rfl
  exact aB
 .intro A y c a d J;replace a:VFB B (λ_=>False) W y:=fD a;have O:(λu _=>u=.agg #[o0,(z:Int),(),()]) (A (.tmp 58)) y:=d 8 58 dC rfl;obtain ⟨ad,Q⟩:=J 8 dC;have P:(λu _=>u=.agg #[o0,(z:Int),(),()]) ad y:=Q;clear Q J;simp only [zqq];clear d;have H:=O;rw [H];have v:=a.y (λ_ _ c=>c);clear P O H a;have n:=v.1.d l.wQ dC dC;have a7:=l.st.G v.1;have a5:=(LFS.j B gs own l.low).trans (LFS.i gs own v);have ax:=n.cell 0;have ay:=n.cell 1;have az:=n.cell 2;have aC:=n.cell 3;have an:=n.frozen 0;have ao:=n.frozen 1;have aq:=n.frozen 2;have ar:=n.frozen 3;clear v;change wpAny prog Region.Mode.any _ _ (1+c) (bT 9 10) _ y;rw [zCt 1 c];refine aY (f:=c) (i:=9) kR ?_;refine bJ rfl rfl ?_;generalize j:wpAny prog _ _ _ c _=K5;go_simp;subst j;refine bG kR ?_;go_wp2_with fail;exact mS (.inl rfl) rfl n a7 a5 l.bs oM l.ap rfl rfl (aV _ _ _) (aV _ _ _) (λR D=>by cases D) (λR D=>by cases D)
def qM {B own gs gl aA rate n m} (z F) {l i} (o) {w} (G:StAt w B own gs gl aA rate n) (J:ArgZ w B own gs l i m) (au:i<=1000000):
 Calls prog 7 #[gs,bK 7 z F l i o] w (StDone w B own gs aA rate n ⟨0,((dY n m).length:Int), [],dY n m⟩):=by
 have g:=DoW.mk' 7 z F l i o G;have a3:m.length=i:=by simpa using J.1.1
 have P:=J.b g.low;have ar:=G.a.lt;have A:∀d f,VB B ((w.alloc (.cells #[(7:Int),(z:Int),(F:Int),.slice l i o] 32)).alloc (.cells #[o0,o0,(),()] 29)) d->Bk d f 22 #[.slice l i o]->Calls prog 20 #[gl,.slice (some ⟨f,0,none⟩) 1 1] d λN w'=>∃a b,N=.returned (.slice a (dY n m).length b)/\Made w' d.heap.size 3 1 a (dY n m).length b ((dY n m).map nv)/\VB B d w':=λd f U a4=>by have a2:=(P.step (LFS.i gs own U)).1;have:=aNJ (Bw:=B) (gl:=gl) (rate:=rate) (t:=n) (A0:=(some ⟨f,0,none⟩)) (m0:=1) (B:=d.heap.size) (ss:=[(⟨l,i,o,m⟩:Sl)]) (w:=d) 1 m (by simp [iV]) (g.st.G U.1).tp (aKK a4 rfl) (λaz R=>by simp at R;subst R;exact a2) nL oM oM;unfold aEb at this;rw [uH] at this;exact this
 obtain ⟨v,Q⟩:=eqx (dY n m);rw [Q] at A⊢;obtain ⟨r,y⟩:=eqx v.length;rw [y] at A⊢;have Z:=g.box.cell 0;have Y:=y;clear G J P a3 Q y;unfold bK;go_enter func7,ntmps7;go_wp2_with fail;generalize (w.alloc (.cells #[(7:Int),(z:Int),(F:Int),.slice l i o] 32)).alloc (.cells #[o0,o0,(),()] 29)=W at*
 clear Z;refine wp_region_any kR<|aQ (S:=(VB B)) (V:=(Vs [is gs,is gs,is gs,is gl,is (.pointer (some ⟨w.heap.size,3,none⟩)),is (.slice l i o),λL j=>∃f,L=.slice (some ⟨f,0,none⟩) 1 1/\Bk j f 22 #[.slice l i o],λu j=>∃a b,u=.slice a r b/\Made j w.heap.size 3 1 a r b (v.map nv),λu j=>∃a b,u=.slice a r b/\Made j w.heap.size 3 1 a r b (v.map nv)])) [61,62,63,64,65,66,67,68,7] _ rfl kR vR (λ_ _=>VisK.trans) (dI (by repeat' (first | exact jN _ _ | exact lE _ | exact λ_ _ _ ⟨f,H,I⟩ E=>⟨f,H,E.1.d I dC dC⟩| exact λ_ _ _ ⟨a,b,H,I⟩ E=>⟨a,b,H,E.1.made I dC dC⟩|(refine zAe.2 ⟨?_,?_⟩)|(intro z a9;cases a9)))) ?_ ?_
 .refine aL<|pH 0 (.pointer (some gs))<|pV 0 61<|pV 1 62<|sC (λ_ d c _ _ _ e _ _ _ p=>?_) ?_
  .have ag:_=_:=e 2 63 kR rfl;replace c:(VB B) W d:=bD c;have a6:=c.1.d g.st.a dC dC;have a0:=a6.cell 0;go_simp;exact p _ _ vR rfl
  refine pH 3 (.pointer (some w.heap.size))<|sC (λ_ d c _ _ _ e _ _ _ p=>?_) ?_
  .have ai:_=_:=e 4 65 kR rfl;replace c:(VB B) W d:=bD c;have a7:=c.1.d g.box dC dC;have a0:=a7.cell 3;go_simp;exact p _ _ vR rfl
  refine sC (λ_ _ _ _ _ _ e _ _ _ p=>?_) ?_
  .have aj:_=_:=e 5 66 kR rfl;go_simp;exact p _ _ (vR.alloc _) ⟨_,rfl,kd _ _ _⟩
  refine sC (λx d c _ _ _ e _ _ _ p=>?_) ?_
  .have ah:_=_:=e 3 64 kR rfl;have ad:(λL j=>∃f,L=.slice (some ⟨f,0,none⟩) 1 1/\Bk j f 22 #[.slice l i o]) (x (.tmp 67)) d:=e 6 67 kR rfl;replace c:(VB B) W d:=bD c;obtain ⟨a1,ak,a5⟩:=ad;have ac:=c.1.size;go_simp;refine (A d a1 c a5).mono ?_;rintro N aC ⟨a,b,rfl,C,ab⟩;exact p _ _ ab ⟨a,b,rfl,⟨cG C.own (zAk g.low.size ac),C.rd,C.cap,C.max⟩⟩
  refine sC (λx d _ _ _ _ e _ _ _ p=>?_) ?_
  .have ae:(λu j=>∃a b,u=.slice a r b/\Made j w.heap.size 3 1 a r b (v.map nv)) (x (.tmp 68)) d:=e 7 68 kR rfl;obtain ⟨a,b,al,D⟩:=ae;go_simp;exact p _ _ vR ⟨a,b,rfl,D⟩
  exact aB
 .intro x X c e;replace c:(VB B) W X:=bD c;have af:(λu j=>∃a b,u=.slice a r b/\Made j w.heap.size 3 1 a r b (v.map nv)) (x (.tmp 7)) X:=e 8 7 rfl;simp only [zqq];clear e;obtain ⟨a,b,O,D⟩:=af;rw [O];clear O;have q:=c.1.d g.wQ dC dC;have a8:=(LFS.j B gs own g.low).trans (LFS.i gs own c);have aa:=g.st.G c.1;have y:∀s,a=some s->own s.block=0:=λs K=>by subst K;have:=(D.own.lt (k:=s.block) rfl).1;by_cases M:own s.block=0;exact M;exact absurd (g.fr s.block this) M
  have av:=q.cell 0;have aw:=q.cell 1;have ax:=q.cell 2;have ay:=q.cell 3;have am:=q.frozen 0;have an:=q.frozen 1;have ao:=q.frozen 2;have aq:=q.frozen 3;clear c A;go_wp2_with fail;exact mS (.inl rfl) rfl q aa a8 g.bs oM g.ap rfl Y (aV _ _ _) D (λs K=>by cases K) y
section
def cW (l:List UInt8):(⟨l.toArray⟩:ByteArray).size=l.length:=by simp [ByteArray.size]
def aJI {m:Option Addr} {b:Nat} (t:Nat) {d c s:Nat} {f:List Nat} {w:World} (q:Rd w s 1 m b (f.map sv)) (p:f[c]?=some d) (x:∀r,r < c->f[r]?≠some d) (F:b<=1000000):
 Calls prog 29 #[.slice m b t,(d:Int)] w λi z=>i=.returned (.int .i64 c)/\w=z:=by
 have o:f.length=b:=by simpa using q.1
 have D:c < b:=by rw [<-o];exact (zAc.1 p).1
 go_enter func29,ntmps29;go_wp2_with fail;go_loopw [5] (λk wr=>∃a:Nat,a<=c/\k=.int .i64 a/\w=wr) (λk _=>b -(intOf k).toNat)
 case atStart=>exact ⟨0,zAp _,rfl,rfl⟩
 case round=>
  obtain ⟨a,E,rfl,rfl⟩:=hrel;have v:a < b:=oM;obtain ⟨e,g⟩:∃e,f[a]?=some e:=⟨_,zAa (by rw [o];exact v)⟩;obtain ⟨b1,y,rfl,C,j⟩:=q.2 oM;have A:w.cell? ⟨b1,y+a,none⟩=some (.int .i64 e):=j a _ (by rw [zAf,g];rfl);by_cases i:a=c
  .subst i;have:e=d:=(by have n:=p;rw [g] at n;injection n);subst this;clear g j;go_wp2_with fail;go_ret;exact ⟨rfl,rfl⟩
  .have G:e≠d:=λu=>x a oM (by rw [g,u]);have B:((e:Int)==d)=false:=(by rw [zCb];omega);clear g j;go_wp2_with fail;go_roundw
   case rel=>exact ⟨a+1,by omega,by go_num,by first | rfl | trivial⟩
   case measure=>exact zr
end
def aAG {a b} (c:a < 256):a+256*b=a ^^^(256*b):=by
 apply zDj;intro f;have e:a+256*b=2 ^ 8*b+a:=oM;rw [e,zDY b (show a < 2 ^ 8 from c),zEh,show 256*b=2 ^ 8*b from rfl,zEi];by_cases d:f < 8
 .rw [zBx d,zBy oM];simp
 .rw [zBw d,zBz oM,zEp (zAl (show a < 2 ^ 8 from c) (zBp oM oM))];simp
def aOz (a b c):2 ^ a*(b ^^^ c)=(2 ^ a*b)^^^(2 ^ a*c):=by
 apply zDj;intro d;rw [zEh,zEi,zEi,zEi,zEh];cases decide (d>=a)<;> simp
def aNr (a b):(a ^^^ b)/ 2=(a / 2)^^^(b / 2):=by
 apply zDj;intro c;rw [zEh,<-zEt,<-zEt,<-zEt,zEh]
def aOy (a b):(a ^^^ b)% 2=(a % 2+b % 2)% 2:=by
 have c:=zEh a b 0;rw [zEH,zEH,zEH] at c;rcases zEo a with d | d <;> rcases zEo b with e | e <;> rcases zEo (a ^^^ b) with f | f <;> rw [d,e,f] at c <;> rw [d,e,f] <;> first | rfl |(exact absurd c dC)
def aE0 (b a):cX (b ^^^ a)=cX b ^^^ cX a:=by
 unfold cX;rw [aOy,aNr];rcases zEo b with c | c <;> rcases zEo a with d | d <;> rw [c,d]
 .rw [zBw dC,zBw dC,zBw dC]
 .rw [zBx dC,zBw dC,zBx dC,zEj]
 .rw [zBx dC,zBx dC,zBw dC,zEj,zEj,zGx (a / 2)]
 .rw [zBw dC,zBx dC,zBx dC,zEj,<-zEj 3988292384,zGx 3988292384,zEj (a / 2),Nat.xor_self,Nat.xor_zero]
def wT (b c:Nat):∀a,eB a (b ^^^ c)=eB a b ^^^ eB a c
 | 0=>rfl
 | a+1=>by show cX (eB a (b ^^^ c))=cX (eB a b)^^^ cX (eB a c);rw [wT b c a,aE0]
def wU (c:Nat) (b:Nat):∀a,eB (a+b) c=eB a (eB b c)
 | 0=>by rw [zBi];rfl
 | a+1=>by rw [Nat.add_right_comm];show cX (eB (a+b) c)=cX (eB a (eB b c));rw [wU c b a]
def aAF (b:Nat):∀a,eB a (2 ^ a*b)=b
 | 0=>by simp [eB]
 | a+1=>by rw [wU _ 1 a];have c:eB 1 (2 ^(a+1)*b)=2 ^ a*b:=(by show cX (2 ^(a+1)*b)=_;have d:2 ^(a+1)*b=2*(2 ^ a*b):=(by rw [zEM,zFY (2 ^ a) 2,Nat.mul_assoc]);rw [d];unfold cX;rw [zBw oM];omega);rw [c,aAF b a]
def leN:List UInt8->Nat
 | []=>0
 | c::r=>c.toNat+256*leN r
def aLR (a:Nat) (b:UInt8):kJ ((a % 256)^^^ b.toNat)^^^(a / 256)=eB 8 (a ^^^ b.toNat):=by
 have c:a=(a % 256)^^^(256*(a / 256)):=by rw [<-aAG oM];omega
 have d:a ^^^ b.toNat=((a % 256)^^^ b.toNat)^^^(2 ^ 8*(a / 256)):=by
  conv=>lhs;rw [c]
  rw [zEj,zEj,zGx (256*(a / 256))]
 rw [d,wT,aAF];rfl
def aHZ:∀(l:List UInt8) (b a:Nat) (e:UInt8),l[b]?=some e->a < 8->leN (l.set b (UInt8.ofNat (e.toNat ^^^ 2 ^ a)))=leN l ^^^ 2 ^(8*b+a)
 | [],b,a,e,d,_=>by cases d
 | c::t,0,a,e,d,hr=>by injection d with d;subst d;have f:=c.toNat_lt;have i:2 ^ a < 2 ^ 8:=zET oM hr;have g:c.toNat ^^^ 2 ^ a < 256:=zEg (n:=8) f i;show (UInt8.ofNat (c.toNat ^^^ 2 ^ a)).toNat+256*leN t=(c.toNat+256*leN t)^^^ 2 ^(8*0+a);rw [zEc,zBu (show c.toNat ^^^ 2 ^ a < 2 ^ 8 from g),aAG g,aAG f,Nat.mul_zero,zBi,zEj,zEj,zGx (2 ^ a)]
 | c::t,b+1,a,e,d,hr=>by have j:=aHZ t b a e d hr;have f:=c.toNat_lt;show c.toNat+256*leN (t.set b (UInt8.ofNat (e.toNat ^^^ 2 ^ a)))=(c.toNat+256*leN t)^^^ 2 ^(8*(b+1)+a);rw [j,aAG f,aAG f,show 256=2 ^ 8 from rfl,aOz,<-Nat.pow_add,zEj,show 8+(8*b+a)=8*(b+1)+a by omega]
def BuAt (c d:List UInt8) (f b e:Nat):Prop:=d.length=c.length/\∀a,(leN d).testBit a=((leN c).testBit a ^^(decide (b<=a/\a < b+e)&&f.testBit (a - b)))
def BuAt.start (a c b):BuAt a a c b 0:=⟨rfl,λd=>by rw [zBy oM];simp⟩
def BuAt.skip {e f d a b} (g:BuAt e f d a b) (j:d.testBit b=false):BuAt e f d a (b+1):=by
 refine ⟨g.1,λc=>?_⟩;rw [g.2 c];by_cases i:c=a+b
 .subst i;rw [zBy oM,zDP,j];simp
 .rw [show (decide (a<=c/\c < a+(b+1)))=decide (a<=c/\c < a+b) from decide_eq_decide.2 oM]
def BuAt.dq {g d e a b f} (i:BuAt g d e a b) (k:e.testBit b=true) (m:d[(a+b)/ 8]?=some f):BuAt g (d.set ((a+b)/ 8) (UInt8.ofNat (f.toNat ^^^ 2 ^((a+b)% 8)))) e a (b+1):=by
 refine ⟨by rw [zAt];exact i.1,λc=>?_⟩;rw [aHZ d _ _ f m oM,show 8*((a+b)/ 8)+(a+b)% 8=a+b by omega,zEh,i.2 c,Nat.testBit_two_pow];by_cases j:c=a+b
 .subst j;rw [zBy (show ¬(a<=a+b/\a+b < a+b) by omega),zBz (show a<=a+b/\a+b < a+(b+1) by omega),zDP,k];simp
 .rw [show (decide (a<=c/\c < a+(b+1)))=decide (a<=c/\c < a+b) from decide_eq_decide.2 oM,zBy (show ¬a+b=c by omega)];simp
def BuAt.done {e f c a} (g:BuAt e f c a 32) (j:c < 4294967296):leN f=leN e ^^^(2 ^ a*c):=by
 apply zDj;intro b;rw [g.2 b,zEh,zEi];by_cases d:a<=b
 .by_cases i:b < a+32
  .rw [zBz (show a<=b/\b < a+32 from ⟨d,i⟩),zBz (show b>=a from d)]
  rw [zBy (show ¬(a<=b/\b < a+32) by omega),zBz (show b>=a from d),zEp (zAl (show c < 2 ^ 32 from j) (zBp oM oM))];rfl
 .rw [zBy (show ¬(a<=b/\b < a+32) by omega),zBy (show ¬b>=a by omega)]
def aGc (a:World) (b:Int):(convert 22 9 (.slice (some a.heap.size) 1 1)).run prog (a.alloc (.cells #[.int .u8 b] 5))=.ok (.string ⟨#[UInt8.ofNat b.toNat]⟩) (a.alloc (.cells #[.int .u8 b] 5)):=by
 have:=run_convert_bytes_arg (P:=prog) (a.alloc (.cells #[.int .u8 b] 5)) 22 5 underlying22 underlying5 a.heap.size 0 1 1 [b] rfl (λc d=>by
  have:c=0:=oM;subst this;rw [(kd a _ _).cell];rfl) 9 underlying9
 rw [this];rfl
def aKH {a:Nat} (b:a < 18446744073709551616):UInt8.ofNat (bits BinOp.and IntKind.u64 (a:Int) 127 % 256).toNat=UInt8.ofNat (a % 128):=by
 have:=u64_and_nat a 127 b oM;rw [nat_mask7] at this;rw [show (127:Int)=((127:Nat):Int) from rfl,this];congr 1;omega
def aMK {a:Nat} (b:a < 18446744073709551616):UInt8.ofNat (bits BinOp.or IntKind.u8 (bits BinOp.and IntKind.u64 ((a:Int)/ 128) 127 % 256) 128).toNat=UInt8.ofNat (a / 128 % 128+128):=by
 have:=u64_and_nat (a / 128) 127 oM oM;rw [nat_mask7] at this;rw [show ((a:Int)/ 128)=((a / 128:Nat):Int) by omega,show (127:Int)=((127:Nat):Int) from rfl,this,aNO];congr 1;omega
def aKj (a b):(⟨#[a]⟩:ByteArray)++⟨b.toArray⟩=⟨(a::b).toArray⟩:=by
 apply zGo;rw [zGa];simp
def cZ (a b:List UInt8):(⟨a.toArray⟩:ByteArray)++⟨b.toArray⟩=⟨(a++b).toArray⟩:=by
 apply zGo;rw [zGa];simp
def aGr {b:Nat} (w) (j:b < 18446744073709551616):
 Calls prog 25 #[.int .u64 b] w λk p=>k=.returned (.string ⟨(bW b).toArray⟩)/\Below w.heap.size w p:=by
 have s:=aGc;go_enter func25,ntmps25;go_wp2;go_loopw [0,3] (λg o wr=>∃(a:Nat) (d:List UInt8),a < 18446744073709551616/\g=.int .u64 a/\o=.string ⟨d.toArray⟩/\mK 10 (a / 128)++d=bW b/\Below w.heap.size w wr) (λg _ _=>(intOf g).toNat)
 case atStart=>exact ⟨b, [UInt8.ofNat (b % 128)],j,rfl,by rw [aKH j],rfl,bR.alloc nL _⟩
 case round=>
  obtain ⟨a,d,f,rfl,rfl,c,e⟩:=hrel;have i:=c;have n:=e.size;have t:d.length<=11:=by have:=bX b;rw [<-c,zAi] at this;omega
  clear c;go_wp2
  .have q:(128:Int)<=a:=(by assumption);refine ⟨⟨a / 128,UInt8.ofNat (a / 128 % 128+128)::d,by have:=f;omega,iT oM,?_,?_,e.alloc n _⟩,by simp [intOf];omega⟩
   .rw [aMK f,aKj]
   rw [<-i,aCh (a / 128) oM (zj f),zCo];rfl
  .have r:(a:Int) < 128:=(by assumption);go_ret;refine ⟨?_,e⟩;have m:a / 128=0:=oM;have c:=i;rw [m,rE,zDH] at c;rw [<-c];rfl
def gM {n} (w) {bs} (b:bW n=bs) (c:n < 18446744073709551616):
 Calls prog 25 #[.int .u64 n] w λa d=>a=.returned (.string ⟨bs.toArray⟩)/\Below w.heap.size w d:=by
 subst b;exact aGr w c
def aNn (e c a):eB (a+1) (e ^^^(c % 2 ^(a+1)))=cX (eB a (e ^^^(c % 2 ^ a))^^^(c / 2 ^ a % 2)):=by
 have f:c % 2 ^(a+1)=(c % 2 ^ a)^^^(2 ^ a*(c / 2 ^ a % 2)):=by
  apply zDj;intro b;rw [zEh,zEZ,zEZ,zEi];rcases zDD b a with d | d | d
  .rw [zBz (show b < a+1 by omega),zBz d,zBy (show ¬b>=a by omega)];simp
  .subst d;rw [zBz (show b < b+1 by omega),zBy (show ¬b < b by omega),zBz (show b>=b by omega),zDK,zEH];simp [zES]
  .rw [zBy (show ¬b < a+1 by omega),zBy (show ¬b < a by omega),zBz (show b>=a by omega)]
   have:(c / 2 ^ a % 2).testBit (b - a)=false:=zEp (zAl (zFG _ oM) (by
    have:=zBp (show 0 < 2 by omega) (show 1<=b - a by omega);simpa using this))
   rw [this];simp
 rw [f,<-zEj,zCt a 1,wU,wT,aAF];rfl
def aED {b:Nat} (i) (g:b < 4294967296) (w):
 Calls prog 71 #[.int .u32 b,.bool i] w λq s=>q=.returned (.int .u32 (cX (b ^^^(if i then 1 else 0)):Nat))/\w=s:=by
 have e:∀c:Nat,c < 4294967296->(if c % 2=1 then bits .xor .u32 ((c:Int)/ 2) 3988292384 else (c:Int)/ 2)=((cX c:Nat):Int):=λc f=>by
  have o:((c:Int)/ 2)=((c / 2:Nat):Int):=oM;have r:(3988292384:Int)=(3988292384:Nat):=rfl;unfold cX;by_cases d:c % 2=1
  .rw [zBx d,zBx d,o,r,iW _ _ oM oM]
  .rw [zBw d,zBw d,o]
 have f:b ^^^ 1 < 4294967296:=zEg (n:=32) g oM;have j:bits .xor .u32 (b:Int) 1=((b ^^^ 1:Nat):Int):=iW b 1 g oM;cases i
 .have m:=oL g;have a:=e b g;rw [show (if false=true then 1 else 0)=0 from rfl,Nat.xor_zero];by_cases d:b % 2=1
  .have k:(((b % 2:Nat):Int)==1)=true:=zCr.2 oM;rw [zBx d] at a;rw [<-a];clear a e j f;go_enter func71,ntmps71;go_wp2_with fail;go_ret;exact ⟨rfl,rfl⟩
  .have k:(((b % 2:Nat):Int)==1)=false:=beq_false_of_ne oM;rw [zBw d] at a;rw [<-a];clear a e j f;go_enter func71,ntmps71;go_wp2_with fail;go_ret;exact ⟨rfl,rfl⟩
 .have m:=oL f;have a:=e (b ^^^ 1) f;rw [show (if true=true then 1 else 0)=1 from rfl];obtain ⟨c,p⟩:=eqx (b ^^^ 1);rw [p] at j m a f⊢;clear p;by_cases d:c % 2=1
  .have k:(((c % 2:Nat):Int)==1)=true:=zCr.2 oM;rw [zBx d] at a;rw [<-a];clear a e;go_enter func71,ntmps71;go_wp2_with fail;go_ret;exact ⟨rfl,rfl⟩
  .have k:(((c % 2:Nat):Int)==1)=false:=beq_false_of_ne oM;rw [zBw d] at a;rw [<-a];clear a e;go_enter func71,ntmps71;go_wp2_with fail;go_ret;exact ⟨rfl,rfl⟩
def aNe {a:List UInt8} {b:Nat} {c:UInt8} (e:a[b]?=some c) (f:b < (⟨a.toArray⟩:ByteArray).size):(⟨a.toArray⟩:ByteArray)[b]=c:=by
 obtain ⟨g,d⟩:=zAc.1 e;exact d
def aNa (a b):(if (a / 2 ^ b % 2==1)=true then 1 else 0)=a / 2 ^ b % 2:=by
 have:=zFG (a / 2 ^ b) (show 0 < 2 by omega);by_cases c:a / 2 ^ b % 2=1;rw [c];rfl;have d:a / 2 ^ b % 2=0:=oM;rw [d];rfl
def aE6 (a:Nat) (d:a < 256):bits .and .u8 (a:Int) 1=((a % 2:Nat):Int):=by
 have b:(BitVec.ofInt 8 (a:Int)).toNat=a:=by rw [zDQ,zDG];exact zBu oM
 show IntKind.u8.wrap ((BitVec.ofInt 8 (a:Int)&&& BitVec.ofInt 8 (1:Int)).toNat:Int)=_;rw [zGt,b];have c:(BitVec.ofInt 8 (1:Int)).toNat=1:=dC;rw [c,IntKind.wrap_u8,zEN];omega
def pP (c f) (r:c.length=f) (O:f<=1000000) (w):
 Calls prog 31 #[.int .u32 0,.string ⟨c.toArray⟩] w λu A=>u=.returned (.int .u32 (lP c:Nat))/\w=A:=by
 have T:(⟨c.toArray⟩:ByteArray).size=f:=by rw [<-r];rfl
 have K:∀e,mE c 4294967295=e->lP c=4294967295 - e:=λe g=>by rw [<-g];rfl
 go_enter func31,ntmps31;go_wp2_with fail;go_loopw [0,5] (λt j wr=>∃d,d<=f/\t=.int .u32 (mE (c.take d) 4294967295:Nat)/\j=.int .i64 d/\w=wr) (λ_ j _=>f -(intOf j).toNat)
 case atStart=>exact ⟨0,zAp _,rfl,rfl,rfl⟩
 case round=>
  obtain ⟨d,Q,rfl,rfl,rfl⟩:=hrel;have o:mE (c.take d) 4294967295 < 4294967296:=qH _ _ oM;obtain ⟨e,k⟩:=eqx (mE (c.take d) 4294967295);rw [k] at o⊢;by_cases L:d < f
  .obtain ⟨a,x⟩:∃a,c[d]?=some a:=⟨_,zAa (by rw [r];exact L)⟩;have i:mE (c.take (d+1)) 4294967295=eB 8 (e ^^^ a.toNat):=(by rw [zAv,x];show mE (c.take d++ [a]) 4294967295=_;rw [tK,aLR,k]);have B:=i;clear i k;go_wp2_with fail;go_loopw [0,6] (λt j wr=>∃b,b<=8/\t=.int .u32 (eB b (e ^^^(a.toNat % 2 ^ b)):Nat)/\j=.int .i64 b/\w=wr) (λ_ j _=>8 -(intOf j).toNat)
   case atStart=>exact ⟨0,by omega,by simp [eB,Nat.mod_one],rfl,rfl⟩
   case round=>
    obtain ⟨b,R,rfl,rfl,rfl⟩:=hrel;by_cases S:b < 8
    .have z:eB b (e ^^^(a.toNat % 2 ^ b)) < 4294967296:=uZ (zEg (n:=32) o (zk a.toNat_lt (Nat.mod_le a.toNat (2 ^ b)))) b;have i:=aNn e a.toNat b;obtain ⟨N,v⟩:=eqx (eB b (e ^^^(a.toNat % 2 ^ b)));rw [v] at z i⊢;have I:=zDZ a.toNat (2 ^ b);have H:=a.toNat_lt;have y:=aE6 (a.toNat / 2 ^ b) oM;have q:=aNa a.toNat b;obtain ⟨m,p⟩:∃m,(a.toNat / 2 ^ b % 2==1)=m:=⟨_,rfl⟩;rw [p] at q;rw [<-q] at i;have s:=aED m z w;rw [<-i] at s;have G:(bits .and .u8 ((a.toNat:Int)/ 2 ^ b) 1==1)=m:=(by have C:((a.toNat:Int)/ 2 ^ b)=((a.toNat / 2 ^ b:Nat):Int):=(by push_cast;rfl);rw [C,y,<-p];by_cases g:a.toNat / 2 ^ b % 2=1;rw [g];rfl;have D:a.toNat / 2 ^ b % 2=0:=oM;rw [D];rfl);have P:∀g,(⟨c.toArray⟩:ByteArray)[d]'g=a:=λg=>by have E:=aNe x g;exact E
     clear y q p i v I H;go_wp2_with fail;refine s.mono ?_;rintro u A ⟨rfl,rfl⟩;clear G s;go_wp2_with fail;go_roundw
     case rel=>exact ⟨b+1,by omega,by first | rfl | trivial,by go_num,by first | rfl | trivial⟩
     case measure=>exact zr
    .obtain rfl:b=8:=oM;have F:a.toNat % 2 ^ 8=a.toNat:=zBu a.toNat_lt;rw [F,<-B];go_wp2_with fail;go_roundw
     case rel=>exact ⟨d+1,by omega,by first | rfl | trivial,by go_num,by first | rfl | trivial⟩
     case measure=>exact zr
  .obtain rfl:f=d:=oM;have M:=aJW o;have J:lP c=4294967295 - e:=(by rw [zAg (zCv r)] at k;exact K e k);clear k;go_wp2_with fail;go_ret;refine ⟨?_,rfl⟩;rw [J,<-M];rfl
def aCf (a w):
 Calls prog 130 #[(a:Int)] w λf i=>f=.returned (.bool (decide (fJ a)))/\w=i:=by
 have c:∀b,b=decide (0<=a/\a < 257)->Ending.returned (.bool b)=Ending.returned (.bool (decide (fJ a))):=λb g=>by rw [g];rfl
 by_cases d:0<=a
 .by_cases e:a < 257
  .go_enter func130,ntmps130;go_wp2;go_ret;exact ⟨c _ (by simp [d,e]),rfl⟩
  .go_enter func130,ntmps130;go_wp2;go_ret;exact ⟨c _ (by simp [d,e]),rfl⟩
 .go_enter func130,ntmps130;go_wp2;go_ret;exact ⟨c _ zt,rfl⟩
def aEF {n:Option Addr} {c:Nat} (r:Nat) {q:Nat} {l:List Int} {w:World} (p:Rd w q 1 n c (l.map iv)) (C:c<=1099511627776):
 Calls prog 69 #[.slice n c r] w λg m=>g=.returned (.bool (decide (∀a∈l,fJ a)))/\w=m:=by
 have i:l.length=c:=by simpa using p.1
 go_enter func69,ntmps69;go_wp2
 go_loop [3] (λk=>∃b:Nat,b<=c/\k=.int .i64 b/\∀a∈l.take b,fJ a) (λk=>c -(intOf k).toNat)
 case atStart=>exact ⟨0,zAp _,rfl,by simp⟩
 case round=>
  obtain ⟨b,B,rfl,o⟩:=hrel;by_cases v:b < c
  .obtain ⟨a,f⟩:∃a,l[b]?=some a:=⟨l[b]'(zj i),zAa (zj i)⟩;obtain ⟨y,D,E,rfl,z,j,t⟩:=p.get v;rw [zAf,f] at j;simp at j;subst j;unfold iv at t;by_cases e:fJ a
   .go_wp2_with fail;refine (aCf a _).mono ?_;rintro g m ⟨rfl,rfl⟩;rw [show decide (fJ a)=true by simpa using e];go_wp2
    go_round
    case rel=>refine ⟨b+1,by omega,by go_num,?_⟩;have u:=(zAc.1 f).1;rw [zDo u,(zAc.1 f).2];intro x d;rcases zCp.1 d with d | d;exact o x d;rw [zDa.1 d];exact e
    case measure=>exact zr
   .go_wp2_with fail;refine (aCf a _).mono ?_;rintro g m ⟨rfl,rfl⟩;rw [show decide (fJ a)=false by simpa using e];go_wp2;go_ret;refine ⟨bH ?_,rfl⟩;symm;rw [decide_eq_false_iff_not];exact λs=>e (s a (zAd f))
  .have A:c<=b:=oM;go_wp2;go_ret;refine ⟨bH ?_,rfl⟩;symm;rw [decide_eq_true_iff];have:=o;rwa [zAg (zj i)] at this
def aLx (l):(∀a∈l,fJ a)↔∀a∈bI l,fJ a.1:=by
 constructor;intro c a b;have i:=(wI l).1 a b;have d:a.1∈eV (bI l):=zGu.2 ⟨a,b,zGg.2 ⟨by omega,rfl⟩⟩;rw [kA] at d;exact c _ d;intro c a b;rw [<-kA l] at b;obtain ⟨g,f,e⟩:=zGu.1 b;rw [(zGg.1 e).2];exact c g f
def aIJ:(prog.info? 117).map (λa=>(a.zero,a.size,a.bytes))=some (some (.agg #[o0,o0]),2,16):=by kernel_rfl
def aEE {P k} (a7) {R l w} (L:Rd w R 1 P k (l.map iv)) (hB:R<=w.heap.size) (aE:k<=1099511627776):
 Calls prog 70 #[.slice P k a7] w λa8 a5=>∃B,a8=.returned B/\a5.ownsRow w.heap.size 117 2 B (bI l).length (bO (bI l))/\Below w.heap.size w a5:=by
 obtain ⟨a3,U,a0,a1,a2⟩:=info_parts aIJ;have I:l.length=k:=by simpa using L.1
 have a6:=(L.mono hB);clear L;go_enter func70,ntmps70;go_wp2;go_loopw [3,4] (λB O wr=>∃c:Nat,c<=k/\O=.int .i64 c/\wr.ownsRow w.heap.size 117 2 B (bI (l.take c)).length (bO (bI (l.take c)))/\Below w.heap.size w wr) (λ_ O _=>k -(intOf O).toNat)
 case atStart=>exact ⟨0,zAp _,rfl,ki _ _ _ _,kg _ _⟩
 case round=>
  obtain ⟨c,aD,rfl,e,n⟩:=hrel;have W:=n.size;by_cases an:c < k
  .obtain ⟨o,M⟩:∃o,l[c]?=some o:=⟨l[c]'(zj I),zAa (zj I)⟩;obtain ⟨S,a4,aL,rfl,az,N,u⟩:=(a6.below n).get an;rw [zAf,M] at N;simp at N;subst N;unfold iv at u;have J:=xP M;have H:=jG (l.take c);rw [zAj] at H;have G:∀b∈bI (l.take c),b.2<=k:=λb au=>by have:=lF au;rw [zAj] at this;omega
   generalize bI (l.take c)=r at*
   clear M;rcases zDL r with rfl |⟨j,⟨b,d⟩,rfl⟩
   .obtain ⟨Q,T,rfl,ao⟩:=aR e;have am:([]:List (Int×Nat)).length=0:=rfl;rw [am] at*
    clear ao G;go_wp2;go_quiet (fail);obtain ⟨s,i⟩:=eqx (wr.drewN nq);have x:s.ownsRow w.heap.size 117 2 (.slice Q 0 T) 0 (bO []):=(by rw [<-i];exact e);have t:Below w.heap.size w s:=(by rw [<-i];exact km n _);have ai:s.cell? ⟨S,a4+c,none⟩=some (.int .i64 o):=(by rw [<-i];exact u);have y:=t.size;rw [i];clear i e n u W;go_wp2_with (at_builtin;refine bP _ rfl (.tmp 38) (.tmp 44) _ rfl w.heap.size 117 a3 _ 2 16 underlying114 U a0 a1 a2 rfl dC (.slice Q 0 T) 0 _ rfl x rfl rfl (by simp [Value.oneCell']) zx oM y ?_;intro aw ax K v aq E);have F:=aX t x v y;clear v E;go_roundw
    case rel=>refine ⟨c+1,by omega,by go_num,?_,F⟩;rw [J,xQ];exact K
    case measure=>exact zr
   .rw [zDW] at*
    obtain ⟨a,q⟩:=eqx j.length;have V:(j++ [(b,d)]).length=a+1:=(by simp [q]);rw [V] at e H;obtain ⟨g,m,z,rfl,aj,ak,ap,aA,_⟩:∃g m z,u3=.slice (some ⟨g,0,none⟩) (a+1) m/\w.heap.size<=g/\wr.heap[g]?=some (.cells z 117 (0,0))/\a+1<=m/\m<=maxLen/\True:=(by rcases e.2 with ⟨_,ay⟩|⟨g,m,z,ad,ae,af,ag,ah,_⟩;omega;exact ⟨g,m,z,ad,ae,af,ag,ah,trivial⟩);have Y:(bO (j++ [(b,d)]))[a*2]?=some (iv b):=(by have:=eM (j++ [(b,d)]) a 0 (b,d) (by rw [zAo oM,q];simp) oM;simpa [jO] using this);have Z:(bO (j++ [(b,d)]))[a*2+1]?=some (iv d):=(by have:=eM (j++ [(b,d)]) a 1 (b,d) (by rw [zAo oM,q];simp) oM;simpa [jO] using this);have ab:wr.cell? ⟨g,a*2,none⟩=some (.int .i64 b):=(e.cellAt (a*2) oM).trans Y;have ac:wr.cell? ⟨g,a*2+1,none⟩=some (.int .i64 d):=(e.cellAt (a*2+1) oM).trans Z;have aa:=e.frozenAt (a*2+1);have aF:(d:Int)<=1099511627776:=(by have:=G (b,d) zs;simp only at this;omega);obtain ⟨f,D⟩:∃f,f=a+1:=⟨_,rfl⟩;have aI:(f:Int) - 1=a:=oM;have aG:0 < f:=oM;have aH:(0:Int) < f:=oM;have aJ:decide ((f:Int) > 0)=true:=(by rw [decide_eq_true_iff];omega);have aK:a < f:=oM;rw [<-D] at e H ap⊢;clear Y Z V ak G;by_cases A:b=o
    .have av:(b==o)=true:=(by rw [zCr];exact A);go_wp2;go_quiet (fail);go_wp2;obtain ⟨ar,aC⟩:=e.stored (a*2+1) (.int .i64 ((d:Int)+1));refine ⟨⟨c+1,by omega,by go_num,?_,(km n nq).setCell (p:=⟨g,a*2+1,none⟩) aj _⟩,by simp [intOf];omega⟩;rw [J,<-A,gL];have C:(j++ [(b,d+1)]).length=f:=(by simp [q,D]);have a9:(bO (j++ [(b,d)])).set (a*2+1) (.int .i64 ((d:Int)+1))=bO (j++ [(b,d+1)]):=(by rw [eJ,eJ,zEs _ _ (by rw [kO,q];omega),kO,q];congr 1;rw [show a*2+1 - a*2=1 by omega];rfl);rw [C,<-a9];exact ar
    .have av:(b==o)=false:=(by rw [zCb];exact A);go_wp2;go_quiet (fail);obtain ⟨s,i⟩:=eqx (wr.drewN nq);have x:s.ownsRow w.heap.size 117 2 (.slice (some ⟨g,0,none⟩) f m) f (bO (j++ [(b,d)])):=(by rw [<-i];exact e);have t:Below w.heap.size w s:=(by rw [<-i];exact km n _);have ai:s.cell? ⟨S,a4+c,none⟩=some (.int .i64 o):=(by rw [<-i];exact u);have y:=t.size;rw [i];clear i e n u W ab ac aa;go_wp2_with (at_builtin;refine bP _ rfl (.tmp 38) (.tmp 44) _ rfl w.heap.size 117 a3 _ 2 16 underlying114 U a0 a1 a2 rfl dC (.slice (some ⟨g,0,none⟩) f m) f _ rfl x rfl rfl (by simp [Value.oneCell']) zx oM y ?_;intro aw ax K v aq E);have F:=aX t x v y;clear v E;go_roundw
     case rel=>refine ⟨c+1,by omega,by go_num,?_,F⟩;rw [J,fT _ _ A,eJ];have C:(j++ [(b,d)]++ [(o,1)]).length=f+1:=(by simp [q,D]);rw [C];exact K
     case measure=>exact zr
  .have al:c=k:=oM;have X:l.take c=l:=zAg (zj I);have aB:k<=c:=oM;rw [X] at e;clear al X;go_wp2;go_ret;exact ⟨u3,rfl,e,n⟩
def aGq {f d} (i) {g l w} {r:List (Int×Nat)} {n} (k:bI l=r) (p:r.length=n) (s:Rd w g 1 f d (l.map iv)) (hB:g<=w.heap.size) (c:d<=1099511627776):
 Calls prog 70 #[.slice f d i] w λj e=>∃a b,j=.returned (.slice a n b)/\Made e w.heap.size 117 2 a n b (bO r)/\Below w.heap.size w e:=by
 subst k;subst p;refine (aEE i s hB c).mono λj e ⟨t,o,q,m⟩=>?_;obtain ⟨a,b,rfl,c⟩:=aR q;exact ⟨a,b,o,c,m⟩
def aEl (a:World) (b c d e:Int):(convert 22 9 (.slice (some a.heap.size) 4 4)).run prog (a.alloc (.cells #[.int .u8 b,.int .u8 c,.int .u8 d,.int .u8 e] 5))=
 .ok (.string ⟨#[UInt8.ofNat b.toNat,UInt8.ofNat c.toNat,UInt8.ofNat d.toNat,UInt8.ofNat e.toNat]⟩) (a.alloc (.cells #[.int .u8 b,.int .u8 c,.int .u8 d,.int .u8 e] 5)):=by
 have:=run_convert_bytes_arg (P:=prog) (a.alloc (.cells #[.int .u8 b,.int .u8 c,.int .u8 d,.int .u8 e] 5)) 22 5 underlying22 underlying5 a.heap.size 0 4 4 [b,c,d,e] rfl (λg f=>by
  rw [zBi,(kd a _ _).cell]
  match g,f with
  | 0,_=>rfl
  | 1,_=>rfl
  | 2,_=>rfl
  | 3,_=>rfl) 9 underlying9
 rw [this];rfl
def aCY {a:Nat} (w) (e:a < 4294967296):
 Calls prog 30 #[.int .u32 a] w λb d=>b=.returned (.string ⟨(nD a).toArray⟩)/\Below w.heap.size w d:=by
 have f:=aEl;go_enter func30,ntmps30;go_wp2;go_ret;refine ⟨?_,bR.alloc nL _⟩;show Ending.returned (.string _)=_;simp only [nD,aBC,zDH,zEm,Nat.reducePow,Nat.div_one];have c:a / 16777216 % 256=a / 16777216:=oM;rw [c]
def pQ {a} (w) {b} (d:nD a=b) (e:a < 4294967296):
 Calls prog 30 #[.int .u32 a] w λc f=>c=.returned (.string ⟨b.toArray⟩)/\Below w.heap.size w f:=by
 subst d;exact aCY w e
def aBy {X B} (ae) {Y l w u} (y:lY l=some u) (T:Rd w Y 1 X B (l.map iv)) (hB:Y<=w.heap.size) (aT:B<=1000000):
 Calls prog 27 #[.slice X B ae] w λv aw=>v=.returned (.tuple #[.string ⟨u.toArray⟩,o0])/\Below w.heap.size w aw:=by
 have a4:l.length=B:=by simpa using T.1
 have F:∀e∈bI l,fJ e.1:=by
  unfold lY at y;split at y;assumption
  .cases y
 have M:eO (bI l)=u:=by rw [lY,zBx F] at y;injection y
 have ao:decide (∀e∈l,fJ e)=true:=by rw [decide_eq_true_iff];exact (aLx l).2 F
 obtain ⟨b,G⟩:=eqx (bI l);obtain ⟨d,A⟩:=eqx b.length;have aU:d<=B:=by rw [<-A,<-G,<-a4];exact jG l
 have am:∀e∈b,e.2<=B:=λe t=>by have:=lF (l:=l) (x:=e) (G ▸ t);omega
 rw [G] at F M;obtain ⟨s,Q⟩:=eqx (bW d);have aN:s.length<=11:=by rw [<-Q];exact bX d
 have al:s++b.flatMap cB=u:=by rw [<-M,eO,A,Q]
 have I:=(T.mono hB);have aI:=kg w.heap.size w;clear y T a4 M hB;go_enter func27,ntmps27;go_wp2_with fail;refine (aEF (l:=l) _ I oM).mono ?_;rintro v w1 ⟨rfl,rfl⟩;rw [ao];go_wp2_with fail;refine (aGq (l:=l) (r:=b) (n:=d) _ G A I nL oM).mono ?_;rintro v aY ⟨ay,C,rfl,a5,K⟩;have ar:=K.size;have Z:=a5.rd;clear a5;go_wp2_with fail;refine (gM (n:=d) (bs:=s) _ Q oM).mono ?_;rintro v aa ⟨rfl,D⟩;have a1:=K.trans (D.mono ar);have aV:=a1.size;have ac:=(Z.below D |>.mono D.size);clear K D Z I;go_wp2;go_loopw [5,6] (λav U wr=>∃a:Nat,a<=d/\U=.int .i64 a/\av=.string ⟨(s++(b.take a).flatMap cB).toArray⟩/\Below w.heap.size w wr/\Below aa.heap.size aa wr) (λ_ U _=>d -(intOf U).toNat)
 case atStart=>exact ⟨0,zAp _,rfl,by simp,a1,kg _ _⟩
 case round=>
  obtain ⟨a,aR,rfl,rfl,J,E⟩:=hrel;have au:=J.size;by_cases aS:a < d
  .obtain ⟨e,t⟩:∃e,b[a]?=some e:=⟨b[a]'(zj A),zAa (zj A)⟩;have H:=F e (zAd t);have aq:=am e (zAd t);obtain ⟨f,i,rfl,ak,N⟩:=(ac.below E |>.mono E.size).2 oM;obtain ⟨aX,g⟩:=e;simp only at H aq;obtain ⟨p,rfl⟩:=zDB H.1;have aW:=H.2;have af:wr.cell? ⟨f,i+a*2,none⟩=some (.int .i64 p):=N (a*2+0) _ ((eM b a 0 _ t oM).trans rfl);have ag:wr.cell? ⟨f,i+a*2+1,none⟩=some (.int .i64 g):=(by rw [zDp];exact N (a*2+1) _ ((eM b a 1 _ t oM).trans rfl));have a2:f < wr.heap.size:=ak;have a6:=sF (r:=b) (k:=a) t;have a3:=qC (b.take a);rw [zAj] at a3;obtain ⟨j,R⟩:=eqx (bW p);obtain ⟨o,P⟩:=eqx (bW g);have aO:j.length<=11:=(by rw [<-R];exact bX p);have aM:o.length<=11:=(by rw [<-P];exact bX g);have a8:cB ((p:Int),g)=j++o:=(by rw [<-R,<-P];rfl);have a7:s++(b.take (a+1)).flatMap cB=s++(b.take a).flatMap cB++(j++o):=(by rw [a6,a8];simp);have an:(s++(b.take a).flatMap cB).length<=11+22*d:=(by rw [zAi];omega);obtain ⟨q,O⟩:=eqx (s++(b.take a).flatMap cB);rw [O] at a7 an;rw [O];have aJ:=cZ q j;have aK:=cZ (q++j) o;have ad:=(show p < 18446744073709551616 by omega);have ab:=(show g < 18446744073709551616 by omega);clear t a6 O a8 a3 H N;go_wp2;refine wp_region_any kR<|aQ (S:=Grow) (V:=(Vs [is (.string ⟨q.toArray⟩),is (.slice (some ⟨f,i,none⟩) d C),is (a:Int),is (.pointer (some ⟨f,i+a*2,none⟩)),is (.pointer (some ⟨f,i+a*2,none⟩)),is (p:Int),is (.int .u64 p),is (.string ⟨j.toArray⟩),is (.string ⟨(q++j).toArray⟩),is (.slice (some ⟨f,i,none⟩) d C),is (a:Int),is (.pointer (some ⟨f,i+a*2,none⟩)),is (.pointer (some ⟨f,i+a*2+1,none⟩)),is (g:Int),is (.int .u64 g),is (.string ⟨o.toArray⟩),is (.string ⟨(q++(j++o)).toArray⟩),is (.string ⟨(q++(j++o)).toArray⟩)])) [22,23,24,25,26,27,28,29,30,31,32,33,34,35,36,37,38,5] _ rfl kR bR (λ_ _=>Grow.trans) (eY tA2) ?_ ?_
   .refine aL<|pH 5 (.string ⟨q.toArray⟩)<|pH 4 (.slice (some ⟨f,i,none⟩) d C)<|pH 6 (.int .i64 a)<|pW 1 23 2 24<|pV 3 25<|pL 4 26 (λW z=>((Below.cell z a2).trans af:W.cell? ⟨f,i+a*2,none⟩=some (.int .i64 p))) ?_;refine sC (λ_ _ _ _ _ _ c _ _ _ m=>?_) ?_
    .have aA:_=_:=c 5 27 kR rfl;go_simp;exact m _ _ bR (iT zv)
    refine sC (λ_ _ _ _ _ _ c _ _ _ m=>?_) ?_
    .have aC:_=_:=c 6 28 kR rfl;go_simp;refine (gM (n:=p) (bs:=j) _ R ad).mono ?_;rintro v ax ⟨rfl,L⟩;exact m _ _ L rfl
    refine sC (λ_ _ _ _ _ _ c _ _ _ m=>?_) ?_
    .have az:_=_:=c 0 22 kR rfl;have aD:_=_:=c 7 29 kR rfl;go_simp;rw [zBw oM];exact m _ _ bR rfl
    refine pH 4 (.slice (some ⟨f,i,none⟩) d C)<|pH 6 (.int .i64 a)<|pW 9 31 10 32<|pV 11 33<|pL 12 34 (λW z=>((Below.cell z a2).trans ag:W.cell? ⟨f,i+a*2+1,none⟩=some (.int .i64 g))) ?_;refine sC (λ_ _ _ _ _ _ c _ _ _ m=>?_) ?_
    .have aF:_=_:=c 13 35 kR rfl;go_simp;exact m _ _ bR (iT zv)
    refine sC (λ_ _ _ _ _ _ c _ _ _ m=>?_) ?_
    .have aG:_=_:=c 14 36 kR rfl;go_simp;refine (gM (n:=g) (bs:=o) _ P ab).mono ?_;rintro v ax ⟨rfl,L⟩;exact m _ _ L rfl
    refine sC (λ_ _ _ _ _ _ c _ _ _ m=>?_) ?_
    .have aE:_=_:=c 8 30 kR rfl;have aH:_=_:=c 15 37 kR rfl;go_simp;rw [zBw oM];exact m _ _ bR rfl
    refine pV 16 38 ?_;exact aB
   .intro a0 aZ z c;have ah:a0 (.tmp 5)=.string ⟨(q++(j++o)).toArray⟩:=c 17 5 rfl;simp only [zqq];rw [ah];clear c;have ai:=J.drew.trans (zDV z au);have aj:=E.drew.trans (zDV z E.size);generalize a0 (Operand.tmp 22)=x22;go_wp2;go_roundw
    case rel=>exact ⟨a+1,by omega,by go_num,by rw [a7],ai,aj⟩
    case measure=>exact zr
  .have ap:a=d:=oM;have aP:d<=a:=oM;have a9:b.take a=b:=zAg (zj A);rw [a9,al];clear ap a9;go_wp2;go_ret2;exact ⟨rfl,J⟩
structure Sp where
 kind:Int
 p:Int
 k:Int
 D:List UInt8
section
def DataAt (w:World) (f:Nat) (e:Option Addr) (a b:Nat) (D:List UInt8):Prop:=
 D.length=a/\a<=b/\b<=maxLen/\((e=none/\a=0/\b=0)∨∃d c,e=some ⟨d,0,none⟩/\f<=d/\Bk w d 5 c/\a<=c.size/\c.toList.take a=D.map bv)
def DataAt.rd {w f b e g D} (j:DataAt w f b e g D):Rd w w.heap.size 1 b e (D.map bv):=by
 obtain ⟨c,n,o,⟨rfl,rfl,rfl⟩|⟨i,m,rfl,q,d,r,ht⟩⟩:=j;obtain rfl:D= []:=zBk c;exact Rd.nil _ _ _ _
 .refine ⟨by simp [c],λ_=>⟨i,0,rfl,d.lt,λs t a=>?_⟩⟩;rw [zBi,d.cell];rw [<-ht,zBs] at a;split at a;simpa using a
  .cases a
def DataAt.s {w d c a e D} (f:w.ownsRow d 5 1 (.slice c a e) a (D.map bv)):DataAt w d c a e D:=by
 have i:D.length=a:=by simpa using f.1
 rcases f.2 with ⟨b,g⟩|⟨m,s,j,b,g,n,o,q,t,r⟩;cases b;exact ⟨i,zAs _,zAp _,.inl ⟨rfl,rfl,rfl⟩⟩;cases b;exact ⟨i,o,q,.inr ⟨m,j,rfl,g,n,by omega,by simpa using r⟩⟩
def DataAt.keep {w w' c d m e D} (n:DataAt w c d m e D) (k:∀a b,c<=a->Bk w a 5 b->Bk w' a 5 b):DataAt w' c d m e D:=by
 obtain ⟨f,g,i,o |⟨a,b,rfl,j,q,r,ht⟩⟩:=n;exact ⟨f,g,i,.inl o⟩;exact ⟨f,g,i,.inr ⟨a,b,rfl,j,k a b j q,r,ht⟩⟩
def DataAt.below {w e B a d b D} (f:DataAt w B a d b D) (k:Below w.heap.size w e):DataAt e B a d b D:=f.keep λi g _ c=>c.below k c.lt
def DataAt.mono {w B B' a f b D} (j:DataAt w B a f b D) (k:B'<=B):DataAt w B' a f b D:=by
 obtain ⟨c,d,e,m |⟨i,g,rfl,q,n,o,ht⟩⟩:=j;exact ⟨c,d,e,.inl m⟩;exact ⟨c,d,e,.inr ⟨i,g,rfl,by omega,n,o,ht⟩⟩
def StpsAt (w:World) (b:Nat):List Value->List Sp->Prop
 | xs, []=>xs= []
 | xs,s::L=>∃a d c e,xs=.int .i64 s.kind::.int .i64 s.p::.int .i64 s.k::.slice a d c::e/\DataAt w b a d c s.D/\StpsAt w b e L
def StpsAt.keep {w w':World} {a:Nat} (k:∀b g,a<=b->Bk w b 5 g->Bk w' b 5 g):∀ {f:List Sp} {i:List Value},StpsAt w a i f->StpsAt w' a i f
 | [],_,d=>d
 | _::_,_,⟨A,n,c,ys,e,hd,d⟩=>⟨A,n,c,ys,e,hd.keep k,StpsAt.keep k d⟩
def StpsAt.below {w c B a d} (e:StpsAt w B d a) (k:Below w.heap.size w c):StpsAt c B d a:=e.keep λg f _ b=>b.below k b.lt
def StpsAt.grown {w e b g q o d r c f} (j:StpsAt w b f c) (n:w.ownsRow g 32 q d o r) (m:w.grownBy e d.ownBlock):StpsAt e b f c:=
 j.keep λi s _ a=>(m.block i a.lt (bC n a dC)).trans a
def DataAt.grown {w g c i r q e d f s b D} (m:DataAt w c b e d D) (o:w.ownsRow i 32 r f q s) (n:w.grownBy g f.ownBlock):DataAt g c b e d D:=
 m.keep λj t _ a=>(n.block j a.lt (bC o a dC)).trans a
def DataAt.o {c w g a f e b D} (m:DataAt w a b f e D) (k:Keep c w g) (n:∀d,c d->d < a):DataAt g a b f e D:=
 m.keep λj q r o=>k.d o (λi=>by have:=n j i;omega)
def aKs {w b d e a} (c:Bk w b e a) (f:a.size=d):Rd w w.heap.size d (some ⟨b,0,none⟩) 1 a.toList:=by
 refine ⟨by simp [f],λ_=>⟨b,0,rfl,c.lt,λi j g=>?_⟩⟩;rw [zBi,c.cell i];rw [<-g];simp
def wM (l:List UInt8) (a b:Nat):(⟨l.toArray⟩:ByteArray).extract a b=⟨((l.drop a).take (b - a)).toArray⟩:=by
 apply zGo;rw [ByteArray.data_extract];apply zFs;rw [Array.toList_extract]
def bZ (l:List UInt8):(⟨l.toArray⟩:ByteArray).size=l.length:=by simp [ByteArray.size]
section
variable (l : List UInt8) (w : World)
def pX (a b) (c:a<=b) (d:b<=l.length):(Instr.slice 9 (.string ⟨l.toArray⟩) (some (.int .i64 a)) (some (.int .i64 b)) none).run prog w=.ok (.string ⟨((l.drop a).take (b - a)).toArray⟩) w:=by
 rw [run_slice_string (P:=prog) (w:=w) 9 ⟨l.toArray⟩ .i64 .i64 a b underlying9 oM oM (by rw [bZ];omega)];rw [zBr,zBr,wM]
def aCM (a) (b:a<=l.length):(Instr.slice 9 (.string ⟨l.toArray⟩) none (some (.int .i64 a)) none).run prog w=.ok (.string ⟨(l.take a).toArray⟩) w:=by
 rw [run_slice_string_h (P:=prog) (w:=w) 9 ⟨l.toArray⟩ underlying9 .i64 a oM (by rw [bZ];omega)];rw [zBr,wM];simp
def aCL (a) (b:a<=l.length):(Instr.slice 9 (.string ⟨l.toArray⟩) (some (.int .i64 a)) none none).run prog w=.ok (.string ⟨(l.drop a).toArray⟩) w:=by
 rw [run_slice_string_l (P:=prog) (w:=w) 9 ⟨l.toArray⟩ underlying9 .i64 a oM (by rw [bZ];omega)];rw [zBr,wM,bZ];congr 3;apply congrArg;rw [zAg (by rw [zAw];omega)]
def aAo (a b) (c:a<=b) (d:b<=l.length):(Instr.sliceAt 9 (.string ⟨l.toArray⟩) (some (.int .i64 a)) (some (.int .i64 b)) none).run prog w=.ok (.string ⟨((l.drop a).take (b - a)).toArray⟩) w:=by
 rw [run_sliceAt_string (h:=underlying9),pX l w a b c d]
def aL5 (a) (b:a<=l.length):(Instr.sliceAt 9 (.string ⟨l.toArray⟩) none (some (.int .i64 a)) none).run prog w=.ok (.string ⟨(l.take a).toArray⟩) w:=by
 rw [run_sliceAt_string (h:=underlying9),aCM l w a b]
def aL4 (a) (b:a<=l.length):(Instr.sliceAt 9 (.string ⟨l.toArray⟩) (some (.int .i64 a)) none none).run prog w=.ok (.string ⟨(l.drop a).toArray⟩) w:=by
 rw [run_sliceAt_string (h:=underlying9),aCL l w a b]
end
def aGB (c a:List UInt8):(c.take a.length==a)=a.isPrefixOf c:=by
 rw [zEd];simp only [zCr,zEn];constructor;intro b;rw [<-b];exact List.take_prefix _ _;intro b;exact (List.prefix_iff_eq_take.1 b).symm
def sM {b p:List UInt8} {a c e d:Nat} (w:World) (i:b.length=e) (g:p.length=d) (q:a+d=c) (n:c<=e) (o:e<=1099511627776):
 Calls prog 59 #[.string ⟨b.toArray⟩,(a:Int),.string ⟨p.toArray⟩] w λj m=>j=.returned (.bool (p.isPrefixOf (b.drop a)))/\w=m:=by
 have u:(⟨b.toArray⟩:ByteArray).size=e:=(bZ b).trans i;have v:(⟨p.toArray⟩:ByteArray).size=d:=(bZ p).trans g;have s:=λw=>pX b w a c oM oM;have t:=λw=>aAo b w a c oM oM;have r:(a:Int)+d=c:=oM;have f:((b.drop a).take (c - a)==p)=p.isPrefixOf (b.drop a):=by rw [<-aGB,g,show c - a=d by omega]
 clear i;go_enter func59,ntmps59;go_wp2;go_ret;exact ⟨bH (by first | exact f |(simp [<-f])),rfl⟩
def aBf {t p n m L N} (w) (f:t.length=n) (b:p.length=m) (s:dY t p=L) (A:L.length=N) (X:n<=549755813888) (V:m<=549755813888):
 Calls prog 23 #[.string ⟨t.toArray⟩,.string ⟨p.toArray⟩] w λj i=>∃c d,j=.returned (.slice c N d)/\Made i w.heap.size 3 1 c N d (L.map nv)/\Below w.heap.size w i:=by
 obtain ⟨P,G,K,M,O⟩:=info_parts xX;have a2:(⟨t.toArray⟩:ByteArray).size=n:=(bZ t).trans f;have a3:(⟨p.toArray⟩:ByteArray).size=m:=(bZ p).trans b;have F:∀k:Nat,k<=n+1 - m->¬(k+m<=n)->fY t p k=L:=λk S U=>by rw [<-s,dY,f,b];congr 1;omega
 have r:=b;clear s b;go_enter func23,ntmps23;go_wp2;go_loopw [5,6] (λR q wr=>∃k:Nat,k<=n+1 - m/\q=.int .i64 k/\wr.ownsRow w.heap.size 3 1 R (fY t p k).length ((fY t p k).map nv)/\Below w.heap.size w wr) (λ_ q _=>n+1 -(intOf q).toNat)
 case atStart=>exact ⟨0,zAp _,rfl,ki _ _ _ _,kg _ _⟩
 case round=>
  obtain ⟨k,H,rfl,a,e⟩:=hrel;have y:=e.size;by_cases I:k+m<=n
  .have v:=wR t p k;have E:=zy ((k:Int)+m<=n);obtain ⟨Z,x⟩:=eqx (k+m);cases g:p.isPrefixOf (t.drop k) with
   | true=>
    have o:=aAA g;obtain ⟨Q,z⟩:=eqx ((fY t p k).length);rw [z] at v a;go_wp2_with fail;refine (sM _ f r x oM oM).mono ?_;rintro j i ⟨rfl,rfl⟩;rw [g];go_wp2_with (at_builtin;refine bP _ rfl (.tmp 20) (.tmp 22) _ rfl w.heap.size 3 P (.int .i64 0) 1 8 underlying27 G K M O rfl dC _ Q _ rfl a rfl rfl (by simp [Value.oneCell']) zx oM y ?_;intro a0 a1 J u Y B);have C:=aX e a u y;clear u B;go_roundw
    case rel=>refine ⟨k+1,by omega,by go_num,?_,C⟩;rw [o,zAi,z,zAz];exact J
    case measure=>exact zr
   | false=>
    have o:=wQ t p k g;clear v;go_wp2_with fail;refine (sM _ f r x oM oM).mono ?_;rintro j i ⟨rfl,rfl⟩;rw [g];go_wp2;go_roundw
    case rel=>refine ⟨k+1,by omega,by go_num,?_,e⟩;rw [o];exact a
    case measure=>exact zr
  .have E:=zn ((k:Int)+m<=n);rw [F k H I,A] at a;obtain ⟨c,d,rfl,b⟩:=aR a;clear a;go_wp2;go_ret;exact ⟨c,d,rfl,b,e⟩
def aAn {y z:Option Addr} {a:Nat} (G:Nat) {e:Nat} (H:Nat) {E F:Nat} {b c:List Nat} {w:World} (A:Rd w E 1 y a (b.map nv)) (B:Rd w F 1 z e (c.map nv)) (S:a<=1099511627776) (U:e<=1099511627776):
 Calls prog 22 #[.slice y a G,.slice z e H] w λK O=>K=.returned (.bool (decide (b=c)))/\Below w.heap.size w O:=by
 have g:b.length=a:=by simpa using A.1
 have i:c.length=e:=by simpa using B.1
 by_cases m:a=e
 .subst m;go_enter func22,ntmps22;go_wp2;go_loopw [5] (λu wr=>∃k:Nat,k<=a/\u=.int .i64 k/\b.take k=c.take k/\∃M,wr=w.drewN M) (λu _=>a -(intOf u).toNat)
  case atStart=>exact ⟨0,zAp _,rfl,rfl,0,rfl⟩
  case round=>
   obtain ⟨k,R,rfl,n,V,rfl⟩:=hrel;by_cases C:k < a
   .obtain ⟨v,r⟩:∃v,b[k]?=some v:=⟨b[k]'(zj g),zAa (zj g)⟩;obtain ⟨x,t⟩:∃x,c[k]?=some x:=⟨c[k]'(zj i),zAa (zj i)⟩;obtain ⟨b1,X,Z,rfl,P,o,I⟩:=A.get C;obtain ⟨b2,Y,a0,rfl,Q,q,J⟩:=B.get C;rw [zAf,r] at o;rw [zAf,t] at q;simp only [zEq,zEB] at o q;subst o;subst q;unfold nv iv at I J;by_cases s:v=x
    .subst s;go_wp2;go_quiet (fail);go_wp2;go_roundw
     case rel=>refine ⟨k+1,by omega,by go_num,?_,_,rfl⟩;rw [zAv,zAv,n,r,t]
     case measure=>exact zr
    .have N:=rK s
     have d:b≠c:=λj=>s (by
      have f:=r;rw [j,t] at f;injection f with f;exact f.symm)
     go_wp2;go_quiet (fail);go_wp2;go_ret;exact ⟨bH (by rw [zBy d]),km (km bR _) _⟩
   .have L:a<=k:=oM;have d:=(xW g i n L);clear n;go_wp2;go_ret;exact ⟨bH (by rw [zBz d]),km bR _⟩
 .have d:b≠c:=λj=>m (by rw [<-g,<-i,j]);have N:=rK m;go_enter func22,ntmps22;go_wp2;go_ret;exact ⟨bH (by rw [zBy d]),kg _ _⟩
def yH (f g i j:Int) {A1 A2 A3 A4:Option Addr} {n1:Nat} (K:Nat) {n2:Nat} (L:Nat) {n3:Nat} (M:Nat) {n4:Nat} (N:Nat) {q r s t:Nat} {X1 X2:List UInt8} {L1 L2:List Nat} {w:World} (A:Rd w q 1 A1 n1 (X1.map bv)) (B:Rd w r 1 A2 n2 (X2.map bv)) (C:Rd w s 1 A3 n3 (L1.map nv)) (E:Rd w t 1 A4 n4 (L2.map nv)) (b1:q<=w.heap.size) (b2:r<=w.heap.size) (x:s<=w.heap.size) (y:t<=w.heap.size) (O:n3<=1099511627776) (P:n4<=1099511627776):
 Calls prog 8 #[.agg #[(f:Int),(i:Int),.slice A1 n1 K,.slice A3 n3 M],.agg #[(g:Int),(j:Int),.slice A2 n2 L,.slice A4 n4 N]] w λz H=>z=.returned (.bool (decide (f=g/\i=j/\X1=X2/\L1=L2)))/\Below w.heap.size w H:=by
 have a:∀b c,Below w.heap.size w ((w.alloc b).alloc c):=λb c=>((kg w.heap.size w).alloc nL b).alloc zs c;have u:=(A.mono b1);have v:=(B.mono b2);have I:=(C.mono x);have J:=(E.mono y);clear A B C E b1 b2 x y;by_cases d:f=g
 .by_cases e:i=j
  .by_cases n:X1=X2
   .have o:(f==g)=true:=(by rw [zCr];exact d);have G:(i==j)=true:=(by rw [zCr];exact e);have m:=(And.intro d (And.intro e n));clear d e n;go_enter func8,ntmps8;have Q:=λb c=>fR (u.below (a b c));have R:=λb c=>fR (v.below (a b c));have S:(X1==X2)=true:=(by rw [zCr];exact m.2.2);go_wp2_with fail;refine (aAn _ _ (I.below (a _ _)) (J.below (a _ _)) O P).mono ?_;rintro z H ⟨rfl,F⟩;have hB:=(a _ _).trans (F.mono (a _ _).size);clear F;go_wp2_with fail;go_ret;exact ⟨bH (by simp [m.1,m.2.1,m.2.2]),hB⟩
   .have o:(f==g)=true:=(by rw [zCr];exact d);have G:(i==j)=true:=(by rw [zCr];exact e);clear d e;go_enter func8,ntmps8;have Q:=λb c=>fR (u.below (a b c));have R:=λb c=>fR (v.below (a b c));have S:(X1==X2)=false:=(by rw [zCb];exact n);go_wp2_with fail;go_ret;exact ⟨bH (by simp [n]),a _ _⟩
  .have o:(f==g)=true:=(by rw [zCr];exact d);have G:(i==j)=false:=(by rw [zCb];exact e);clear d;go_enter func8,ntmps8;go_wp2_with fail;go_ret;exact ⟨bH (by simp [e]),a _ _⟩
 .have o:(f==g)=false:=(by rw [zCb];exact d);go_enter func8,ntmps8;go_wp2_with fail;go_ret;exact ⟨bH (by simp [d]),a _ _⟩
def jV (a b:List UInt8):Value.string ((⟨a.toArray⟩:ByteArray)++⟨b.toArray⟩)=.string ⟨(a++b).toArray⟩:=congrArg Value.string (by
 apply zGo;rw [zGa];simp)
def RdN.ca {w d g f j b c i} (e:Made w d b g c f j i) (q:b=5∨b=3):RdN w d g c f i:=⟨e.rd,λx r n=>by
 subst n;rcases e.own.2 with ⟨y,v⟩|⟨u,s,t,a,m,o,_⟩;omega
 .injection a with a;injection a with a;subst a;exact ⟨m,_,_,_,o,q⟩⟩
def aLa (d e b:Nat) (g:List Value):Value->World->Prop:=λf w=>∃a c,f=.slice a b c/\RdN w d e a b g
def aEn {a c} (i:∀b,a b->b < c) (m j n):tO a (aLa c m j n):=λ_ _ _ ⟨d,e,f,g⟩ k=>⟨d,e,f,g.o k i⟩
def aOR (d:Nat) (a:List UInt8):Value->World->Prop:=λe w=>∃b c,e=.agg (iD ⟨0,0,a, []⟩ b c none 0)/\RdN w d 1 b a.length (a.map bv)
def aIu {a c} (j:∀b,a b->b < c) (e):tO a (aOR c e):=λ_ _ _ ⟨d,f,g,i⟩ k=>⟨d,f,g,i.o k j⟩
def aL8 (e d:Nat) (a:List UInt8):Value->World->Prop:=λ_ w=>∃b c,Bk w e 29 (iD ⟨0,0,a, []⟩ b c none 0)/\RdN w d 1 b a.length (a.map bv)
def aJx (g f c):Stb (aL8 g f c):=λ_ _ _ ⟨b,d,a,e⟩ k=>⟨b,d,kf a k a.lt,e.below k⟩
def aKJ (w:World) (l:List UInt8) (c:Nat) {a:TypeId} (d:Nat×Nat) (i e:Nat) (q:l.length=i) (o:e=w.heap.size) (n:a=5∨a=3):RdN (w.drew.alloc (.cells (bytesRow ⟨l.toArray⟩ c) a d)) e 1 (some ⟨e,0,none⟩) i (l.map bv):=by
 subst o;refine ⟨⟨by simp [q],λ_=>⟨_,0,rfl,by simp,λg s b=>?_⟩⟩,λ_ r m=>by cases m;exact ⟨zAs _,_,_,_,heap_alloc_new w.drew _,n⟩⟩;have j:=cell_of_row (w.drew.alloc (.cells (bytesRow ⟨l.toArray⟩ c) a d)) w.heap.size g (bytesRow ⟨l.toArray⟩ c) a d (heap_alloc_new w.drew _);rw [zBi,j];unfold bytesRow;have f:g < l.length:=by have:=(zAc.1 b).1;simpa using this
 rw [Array.getElem?_append_left (by simpa using f)];rw [zAf,zAa f] at b;simp only [zEq,zEB] at b;rw [<-b];simp [f,bv]
def fP (gx:Nat) (aA:Int) (f:List UInt8) (a:Told) (w b:World) (j:Ending):Prop:=
 ∃c i d e,j=.returned (.agg (iD a c i d e))/\Keep (λg=>g=gx) w b/\RdN b w.heap.size 1 c a.data.length (a.data.map bv)/\Made b w.heap.size 3 1 d a.places.length e (a.places.map nv)/\Bk b gx 35 #[.string ⟨f.toArray⟩,(aA:Int)]
def kP {gx aA d b w a c s A1 c1 A2 c2} (o:c.getD 4 undef=.pointer (some s)) (i:Bk a s 29 (iD b A1 c1 A2 c2)) (j:Keep (λe=>e=gx) w a) (m:RdN a w.heap.size 1 A1 b.data.length (b.data.map bv)) (n:Made a w.heap.size 3 1 A2 b.places.length c2 (b.places.map nv)) (q:Bk a gx 35 #[.string ⟨d.toArray⟩,(aA:Int)]):
 bodyPost prog f9 (λg a=>fP gx aA d b w a g) .ret ⟨c, []⟩ a:=by
 have r:=results_cell_row (P:=prog) (fn:=f9) (p:=4) (ty:=29) rfl c a s 29 (iD b A1 c1 A2 c2) (0,0) _ o i underlying29 rfl kR;exact bodyPost_ret r rfl ⟨A1,c1,A2,c2,rfl,j,m,n,q⟩
section
variable {w W W' : World} {gx nd cd : Nat} {AD : Option Addr} {T D : List UInt8} {aA kind p k : Int}
def zE (w kind p k AD nd cd a):Below w.heap.size w ((w.alloc (.cells #[(kind:Int),(p:Int),(k:Int),.slice AD nd cd] 32)).alloc (.cells a 29)):=
 ((kg w.heap.size w).alloc nL _).alloc (by simp) _
def aCX (w:World) (kind p k:Int) (AD:Option Addr) (nd cd:Nat) (a:Array Value):Bk ((w.alloc (.cells #[(kind:Int),(p:Int),(k:Int),.slice AD nd cd] 32)).alloc (.cells a 29)) (w.heap.size+1) 29 a:=by
 simpa using kd (w.alloc (.cells #[(kind:Int),(p:Int),(k:Int),.slice AD nd cd] 32)) 29 a
def iI {a} (b:Bk w gx 35 #[.string ⟨T.toArray⟩,(aA:Int)]) (c:Rd w a 1 AD nd (D.map bv)) (hB:a<=w.heap.size):
 RefF w ((w.alloc (.cells #[(kind:Int),(p:Int),(k:Int),.slice AD nd cd] 32)).alloc (.cells #[o0,o0,(),()] 29)) gx nd cd AD T D aA kind p k:=
 ⟨zE _ _ _ _ _ _ _ _,(kd _ _ _).alloc _,aCX _ _ _ _ _ _ _ _,(b.alloc _).alloc _,(c.mono hB).below (zE _ _ _ _ _ _ _ _),b.lt⟩
end
def aNd {a p k} (b:dK a p k=false):p < 0∨(0<=p/\k < 0)∨(0<=p/\0<=k/\(a:Int) < p)∨(0<=p/\0<=k/\p<=(a:Int)/\(a:Int) - p < k):=by
 unfold dK at b;have:=of_decide_eq_false b;omega
def tQ {gx:Nat} {AD} {nd:Nat} (cd:Nat) {kind p k:Int} {aA:Int} {T} {b:Nat} (i:T.length=b) {w} (e:Bk w gx 35 #[.string ⟨T.toArray⟩,(aA:Int)]) (t:b<=549755813888) (s:nd<=549755813888) (x:-9223372036854775808<=(p:Int)/\(p:Int)<=9223372036854775807) (o:-9223372036854775808<=(k:Int)/\(k:Int)<=9223372036854775807) {c d k':Int} (a:(((kind=1/\k'=0)∨(kind=2/\k'=k)∨(kind=5/\k'=k)∨(kind=3/\k'=(nd:Int)))/\dK b p k'=false/\c=2/\d=0)∨(kind=4/\c=0/\d=(b:Int))∨(kind=8/\c=0/\d=0)):
 Calls prog 9 #[gx,bK kind p k AD nd cd] w λj q=>fP gx aA (T) ⟨c,d, [], []⟩ w q j:=by
 have u:=e.lt;have z:(⟨T.toArray⟩:ByteArray).size=b:=(bZ T).trans i;have y:w.cell? gx=some (.string ⟨T.toArray⟩):=(e.cell 0).trans rfl;clear i;have v:=o;unfold bK;rcases a with ⟨n,g,rfl,rfl⟩|⟨rfl,rfl,rfl⟩|⟨rfl,rfl,rfl⟩;rcases aNd g with a |⟨a,f⟩|⟨a,f,m⟩|⟨a,f,m,r⟩<;> clear g <;> rcases n with ⟨rfl,rfl⟩|⟨rfl,rfl⟩|⟨rfl,rfl⟩|⟨rfl,rfl⟩
 all_goals first
  |(exfalso;omega)
  |(go_enter func9,ntmps9
    go_wp2;exact kP (A1:=none) (c1:=0) (A2:=none) (c2:=0) rfl (aCX w _ p _ AD nd cd _) (kF (zE _ _ _ _ _ _ _ _)) (RdN.nil _ _ _ _) (aV _ _ _) ((e.alloc _).alloc _))
def aBc {gx:Nat} {AD:Option Addr} {nd:Nat} (cd:Nat) {y:Nat} {p k:Nat} {aA:Int} {T D:List UInt8} {q:Nat} (o:T.length=q) {w:World} (j:Bk w gx 35 #[.string ⟨T.toArray⟩,(aA:Int)]) (x:Rd w y 1 AD nd (D.map bv)) (hB:y<=w.heap.size) (ah:0 < nd->∀z,AD=some z->z.block≠gx) (ag:q<=549755813888) (ae:nd<=549755813888) (am:-9223372036854775808<=(p:Int)/\(p:Int)<=9223372036854775807) (ak:-9223372036854775808<=(k:Int)/\(k:Int)<=9223372036854775807) (al:0<=aA/\aA<=2147483648) (ad:p+k<=q):
 Calls prog 9 #[gx,bK 2 p k AD nd cd] w λH M=>fP gx aA (T.take p++([]++T.drop (p+k))) ⟨0,0, [], []⟩ w M H:=by
 have af:D.length=nd:=by simpa using x.1
 have b:=iI (kind:=2) (p:=p) (k:=k) (cd:=cd) j x hB;have v:=b;have N:=j;have ai:=j.lt;have aw:(⟨T.toArray⟩:ByteArray).size=q:=(bZ T).trans o;have av:w.cell? gx=some (.string ⟨T.toArray⟩):=(j.cell 0).trans rfl;clear x j b;obtain ⟨t,J⟩:=eqx (p+k);obtain ⟨u,A⟩:=eqx ((T.take p++ [])++T.drop t);have B:T.take p++([]++T.drop (p+k))=u:=by rw [J,<-zCo];exact A
 rw [B];clear B;have O:=λw=>aL5 T w p (zj o);have P:=λw=>aL4 T w t (zj o);have b1:=λw=>aCM T w p (zj o);have b2:=λw=>aCL T w t (zj o);have U:¬((p:Int) < 0):=oM;have V:¬((p:Int) > q):=oM;have X:¬((k:Int) > q -p):=oM;have Y:¬((k:Int) < 0):=oM;unfold bK;go_enter func9,ntmps9;go_wp2;obtain ⟨W,C⟩:=eqx ((w.alloc (.cells #[(2:Int),(p:Int),(k:Int),.slice AD nd cd] 32)).alloc (.cells #[o0,o0,(),()] 29));rw [C] at v⊢;have b:=v;clear C v;refine wp_region_any kR<|bM (pJ:=(λ_ w1=>Bk w1 gx 35 #[.string ⟨u.toArray⟩,(aA:Int)])) [104,105,106,107,108,109,110,111,112,113,114,115,116,117,118,119,120,121,122,123,124] (λf=>f=gx) 21 [4,11,21] [is gx,is gx,is gx,is gx,is (.string ⟨T.toArray⟩),is (.pointer (some ⟨w.heap.size,1,none⟩)),is (p:Int),is (.string ⟨(T.take p).toArray⟩),is gx,is gx,is gx,is (.string ⟨T.toArray⟩),is (.pointer (some ⟨w.heap.size,1,none⟩)),is (p:Int),is (.pointer (some ⟨w.heap.size,2,none⟩)),is (k:Int),is (t:Int),is (.string ⟨(T.drop t).toArray⟩),is (.string ⟨u.toArray⟩),is gx,is gx,cO] _ rfl kR kR (b.mod) (λw1 au c _ j=>kf c j c.lt) (λ_ _ _ c k=>kf c k c.lt) tA1 ?_ ?_
 .refine aL<|pH3 0 (.pointer (some gx))<|pH3 0 (.pointer (some gx))<|pV3 1 105<|pV3 2 106<|sC3 (λ_ e _ r _ _ _ d _ _ _ g=>?_) ?_
  .have m:=r rfl;have Z:_=_:=d 3 107 kR rfl;have Q:e.cell? gx=some (.string ⟨T.toArray⟩):=(m.cell 0).trans rfl;go_simp;exact kq g rfl
  refine pH3 3 (.pointer (some w.heap.size))<|pL3 5 109 (λe a=>have a:Keep (λf=>f=gx) W e:=kD a;(((a.d b.step (λc=>absurd (show w.heap.size=gx from c) (zj b.ae))).cell 1).trans rfl:e.cell? ⟨w.heap.size,1,none⟩=some (.int .i64 p))) ?_;refine pW3 4 108 6 110<|pH3 0 (.pointer (some gx))<|pV3 8 112<|pV3 9 113<|sC3 (λ_ e _ r _ _ _ d _ _ _ g=>?_) ?_
  .have m:=r rfl;have a1:_=_:=d 10 114 kR rfl;have R:e.cell? gx=some (.string ⟨T.toArray⟩):=(m.cell 0).trans rfl;go_simp;exact kq g rfl
  refine pH3 3 (.pointer (some w.heap.size))<|pL3 12 116 (λe a=>have a:Keep (λf=>f=gx) W e:=kD a;(((a.d b.step (λc=>absurd (show w.heap.size=gx from c) (zj b.ae))).cell 1).trans rfl:e.cell? ⟨w.heap.size,1,none⟩=some (.int .i64 p))) ?_;refine pH3 3 (.pointer (some w.heap.size))<|pL3 14 118 (λe a=>have a:Keep (λf=>f=gx) W e:=kD a;(((a.d b.step (λc=>absurd (show w.heap.size=gx from c) (zj b.ae))).cell 2).trans rfl:e.cell? ⟨w.heap.size,2,none⟩=some (.int .i64 k))) ?_;refine sC3 (λ_ _ _ _ _ _ _ d _ _ _ g=>?_) ?_
  .have a2:_=_:=d 13 117 kR rfl;have a3:_=_:=d 15 119 kR rfl;go_simp;exact g _ _ (aE bR) (cS zu)
  refine pW3 11 115 16 120<|sC3 (λ_ _ _ _ _ _ _ d _ _ _ g=>?_) ?_
  .have a0:_=_:=d 7 111 kR rfl;have a4:_=_:=d 17 121 kR rfl;go_simp;rw [zBw (by have:=o;simp;omega)];exact g _ _ (aE bR) ((jV _ _).trans (by rw [<-A,zEa]))
  refine pV3 0 104<|pV3 19 123<|sC3 (λ_ e _ r _ _ _ d _ _ _ g=>?_) ?_
  .have m:=r rfl;have a6:_=_:=d 20 124 kR rfl;have a5:_=_:=d 18 122 kR rfl;have ab:=m.frozen 0;have S:e.cell? gx=some (.string ⟨T.toArray⟩):=(m.cell 0).trans rfl;go_simp;exact g (.bool true) _ (aW (ka (F:=λf=>f=gx) (ke _ _) (p:=gx) (.inl rfl) _)) (m.set 0 _)
  exact aB
 .intro a7 n a d E;replace a:Keep (λf=>f=gx) W n:=kD a;obtain ⟨ar,G⟩:∃L,(λ_ w1=>Bk w1 gx 35 #[.string ⟨u.toArray⟩,(aA:Int)]) L n:=E 21 dC;simp only [zqq];clear d E;have aj:=b.ae;have i:=a.d b.wQ (λc=>absurd (show w.heap.size+1=gx from c) oM);have an:n.cell? ⟨w.heap.size+1,0,none⟩=some (.int .i64 0):=(i.cell 0).trans rfl;have a8:=i.frozen 0;have ao:n.cell? ⟨w.heap.size+1,1,none⟩=some (.int .i64 0):=(i.cell 1).trans rfl;have a9:=i.frozen 1;have ap:n.cell? ⟨w.heap.size+1,2,none⟩=some (.slice none 0 0):=(i.cell 2).trans rfl;have aa:=i.frozen 2;have aq:n.cell? ⟨w.heap.size+1,3,none⟩=some (.slice none 0 0):=(i.cell 3).trans rfl;have ac:=i.frozen 3;go_wp2;have I:=nB (v0:=.int .i64 0) (v1:=.int .i64 0) (v2:=.slice none 0 0) (v3:=.slice none 0 0) (zDT w.heap.size) ((kF b.low).trans a);have K:=iY (W:=n) (s:=w.heap.size+1) (v0:=.int .i64 0) (v1:=.int .i64 0) (v2:=.slice none 0 0) (v3:=.slice none 0 0);exact kP (s:=w.heap.size+1) (A1:=none) (c1:=0) (A2:=none) (c2:=0) rfl (eP i) I (RdN.nil _ _ _ _) (aV _ _ _) (K.d G (λc=>absurd (show gx=w.heap.size+1 from c) (zj b.ae)))
def yJ {gx:Nat} {AD:Option Addr} {nd:Nat} (cd:Nat) {B:Nat} {p k:Nat} {aA:Int} {T D:List UInt8} {o:Nat} (z:T.length=o) {w:World} (m:Bk w gx 35 #[.string ⟨T.toArray⟩,(aA:Int)]) (y:Rd w B 1 AD nd (D.map bv)) (hB:B<=w.heap.size) (I:0 < nd->∀C,AD=some C->C.block≠gx) (an:o<=549755813888) (al:nd<=549755813888) (aq:-9223372036854775808<=(p:Int)/\(p:Int)<=9223372036854775807) (ao:-9223372036854775808<=(k:Int)/\(k:Int)<=9223372036854775807) (ap:0<=aA/\aA<=2147483648) (ak:p+k<=o):
 Calls prog 9 #[gx,bK 5 p k AD nd cd] w λM a0=>fP gx aA (T) ⟨0,0,(T.drop p).take k, []⟩ w a0 M:=by
 have am:D.length=nd:=by simpa using y.1
 have f:=iI (kind:=5) (p:=p) (k:=k) (cd:=cd) m y hB;obtain ⟨v,L,Hn,a2⟩:=hqq4 f m z I;have R:=m.lt;have aD:(⟨T.toArray⟩:ByteArray).size=o:=(bZ T).trans z;have aC:w.cell? gx=some (.string ⟨T.toArray⟩):=(m.cell 0).trans rfl;clear y m f z I;obtain ⟨u,ar⟩:=eqx (p+k);obtain ⟨e,x⟩:=eqx ((T.drop p).take k);have F:(T.drop p).take (u - p)=e:=by rw [show u - p=k by omega];exact x
 rw [x];have K:=lhd F;clear x F;have a3:=λw=>aAo T w p u oM (zj Hn.out);have b1:=λw=>pX T w p u oM (zj Hn.out);have a4:¬((p:Int) < 0):=oM;have a5:¬((p:Int) > o):=oM;have a6:¬((k:Int) > o -p):=oM;have a7:¬((k:Int) < 0):=oM;unfold bK;go_enter func9,ntmps9;go_wp2;obtain ⟨W,E⟩:=eqx ((w.alloc (.cells #[(5:Int),(p:Int),(k:Int),.slice AD nd cd] 32)).alloc (.cells #[o0,o0,(),()] 29));rw [E] at v⊢;have f:=v.out;clear E v;refine wp_region_any kR<|bM (pre:=(λw1=>Bk w1 (w.heap.size+1) 29 #[o0,o0,(),()])) (pJ:=(aL8 (w.heap.size+1) (w.heap.size+2) e)) [90,91,92,93,94,95,96,97,98,99,100,101,102,103] (λc=>c=w.heap.size+1) 14 [14] [is gx,is gx,is gx,is (.string ⟨T.toArray⟩),is (.pointer (some ⟨w.heap.size,1,none⟩)),is (p:Int),is (.pointer (some ⟨w.heap.size,1,none⟩)),is (p:Int),is (.pointer (some ⟨w.heap.size,2,none⟩)),is (k:Int),is (u:Int),is (.string ⟨e.toArray⟩),aLa (w.heap.size+2) 1 e.length (e.map bv),aOR (w.heap.size+2) e,cO] _ rfl kR kR (f.wQ) (λw1 az g _ m=>kf g m g.lt) (aJx _ _ _) (by repeat' (first | exact gK _ _ | exact fB _ | exact aEn (λc n=>by subst n;omega) _ _ _ | exact aIu (λc n=>by subst n;omega) _ |(refine zAe.2 ⟨?_,?_⟩)|(intro p U;cases U))) ?_ ?_
 .refine aL<|pH3 0 (.pointer (some gx))<|pV3 0 90<|pV3 1 91<|pL3 2 92 (λb a=>have a:Keep (λc=>c=w.heap.size+1) W b:=kD a;(((a.d f.mod (λg=>absurd (show gx=w.heap.size+1 from g) (zj f.ae))).cell 0).trans rfl:b.cell? gx=some (.string ⟨T.toArray⟩))) ?_;refine pH3 3 (.pointer (some w.heap.size))<|pL3 4 94 (λb a=>have a:Keep (λc=>c=w.heap.size+1) W b:=kD a;(((a.d f.step (λg=>absurd (show w.heap.size=w.heap.size+1 from g) oM)).cell 1).trans rfl:b.cell? ⟨w.heap.size,1,none⟩=some (.int .i64 p))) ?_;refine pH3 3 (.pointer (some w.heap.size))<|pL3 6 96 (λb a=>have a:Keep (λc=>c=w.heap.size+1) W b:=kD a;(((a.d f.step (λg=>absurd (show w.heap.size=w.heap.size+1 from g) oM)).cell 1).trans rfl:b.cell? ⟨w.heap.size,1,none⟩=some (.int .i64 p))) ?_;refine pH3 3 (.pointer (some w.heap.size))<|pL3 8 98 (λb a=>have a:Keep (λc=>c=w.heap.size+1) W b:=kD a;(((a.d f.step (λg=>absurd (show w.heap.size=w.heap.size+1 from g) oM)).cell 2).trans rfl:b.cell? ⟨w.heap.size,2,none⟩=some (.int .i64 k))) ?_;refine sC3 (λ_ _ _ _ _ _ _ d _ _ _ i=>?_) ?_
  .have ae:_=_:=d 7 97 kR rfl;have af:_=_:=d 9 99 kR rfl;go_simp;exact i _ _ (aE bR) (cS zu)
  refine sC3 (λ_ _ _ _ _ _ _ d _ _ _ i=>?_) ?_
  .have ac:_=_:=d 3 93 kR rfl;have ad:_=_:=d 5 95 kR rfl;have a8:_=_:=d 10 100 kR rfl;go_simp;exact i _ _ (aE bR) (congrArg (λa1:List UInt8=>Value.string ⟨a1.toArray⟩) K)
  refine sC3 (λ_ b a _ _ _ _ d _ _ _ i=>?_) ?_
  .replace a:Keep (λc=>c=w.heap.size+1) W b:=kD a;have a9:_=_:=d 11 101 kR rfl;have V:=run_bytes_of_string (P:=prog) b 9 22 5 ⟨e.toArray⟩ underlying9 underlying22 underlying5;rw [bZ e] at V;go_simp;exact i _ _ (aE (bR.drew.alloc nL _)) ⟨_,_,rfl,(aKJ b e _ _ _ _ rfl rfl (.inl rfl)).mono (zk a.size f.wQ.lt)⟩
  refine sC3 (λs b _ _ _ _ _ d _ _ _ i=>?_) ?_
  .have X:(aLa (w.heap.size+2) 1 e.length (e.map bv)) (s (.tmp 102)) b:=d 12 102 kR rfl;obtain ⟨q,r,aa,t⟩:=X;go_simp;exact i _ _ (aE bR) ⟨q,r,rfl,t⟩
  refine sC3 (λs b _ O _ _ S d _ _ _ i=>?_) ?_
  .have j:=O rfl;have ab:s (.tmp 4)=.pointer (some ⟨w.heap.size+1,0,none⟩):=S 4 kR;have Y:(aOR (w.heap.size+2) e) (s (.tmp 103)) b:=d 13 103 kR rfl;obtain ⟨q,r,N,t⟩:=Y;unfold iD at N;have au:b.cell? ⟨w.heap.size+1,0,none⟩=some (.int .i64 0):=(j.cell 0).trans rfl;have ag:=j.frozen 0;have av:b.cell? ⟨w.heap.size+1,1,none⟩=some (.int .i64 0):=(j.cell 1).trans rfl;have ah:=j.frozen 1;have aw:b.cell? ⟨w.heap.size+1,2,none⟩=some (.slice none 0 0):=(j.cell 2).trans rfl;have ai:=j.frozen 2;have ax:b.cell? ⟨w.heap.size+1,3,none⟩=some (.slice none 0 0):=(j.cell 3).trans rfl;have aj:=j.frozen 3;go_simp;exact i (.bool true) _ (aW iY) ⟨q,r,eP j,t.o iY (λc n=>by subst n;omega)⟩
  exact aB
 .intro s A a d G;replace a:Keep (λc=>c=w.heap.size+1) W A:=kD a;obtain ⟨ay,J⟩:∃Z,(aL8 (w.heap.size+1) (w.heap.size+2) e) Z A:=G 14 dC;simp only [zqq];clear d G;obtain ⟨q,r,Q,t⟩:=J;go_wp2;have H:Below w.heap.size w A:=f.low.trans (a.e f.low.size (λc n g=>absurd (show c=w.heap.size+1 from g) oM));exact kP (A1:=q) (c1:=r) (A2:=none) (c2:=0) rfl Q (kF H) (t.mono oM) (aV _ _ _) (L.below H R)
def aCC {gx AD nd} (cd) {x p k aA T D t} (I:T.length=t) {w} (j:Bk w gx 35 #[.string ⟨T.toArray⟩,(aA:Int)]) (s:Rd w x 1 AD nd (D.map bv)) (hB:x<=w.heap.size) (a8:0 < nd->∀y,AD=some y->y.block≠gx) (a7:t<=549755813888) (a6:nd<=549755813888) (ab:-9223372036854775808<=(p:Int)/\(p:Int)<=9223372036854775807) (a9:-9223372036854775808<=(k:Int)/\(k:Int)<=9223372036854775807) (aa:0<=aA/\aA<=2147483648)
 :
 Calls prog 9 #[gx,bK 6 p k AD nd cd] w λA U=>fP gx aA (T) ⟨0,((dY T D).length:Int), [], []⟩ w U A:=by
 have L:D.length=nd:=by simpa using s.1
 have e:=iI (kind:=6) (p:=p) (k:=k) (cd:=cd) j s hB;have o:=e;have K:=j;have O:=j.lt;have al:(⟨T.toArray⟩:ByteArray).size=t:=(bZ T).trans I;have ak:w.cell? gx=some (.string ⟨T.toArray⟩):=(j.cell 0).trans rfl;clear s j e;obtain ⟨q,B⟩:=eqx (dY T D);obtain ⟨m,C⟩:=eqx q.length;rw [B,C];unfold bK;go_enter func9,ntmps9;go_wp2;obtain ⟨W,E⟩:=eqx ((w.alloc (.cells #[(6:Int),(p:Int),(k:Int),.slice AD nd cd] 32)).alloc (.cells #[o0,o0,(),()] 29));rw [E] at o⊢;have e:=o;clear E o;refine wp_region_any kR<|bM (pJ:=(λ_ w1=>Bk w1 (w.heap.size+1) 29 #[o0,(m:Int),(),()])) [179,180,181,182,183,184,185,186,187,188] (λc=>c=w.heap.size+1) 10 [10] [is gx,is gx,is gx,is (.string ⟨T.toArray⟩),is (.pointer (some ⟨w.heap.size,3,none⟩)),is (.slice AD nd cd),is (.string ⟨D.toArray⟩),aLa (w.heap.size+2) 1 m (q.map nv),is (m:Int),is (.agg #[o0,(m:Int),(),()]),cO] _ rfl kR kR (e.wQ) (λw1 ai d _ j=>kf d j d.lt) (λ_ _ _ d k=>kf d k d.lt) (by repeat' (first | exact gK _ _ | exact fB _ | exact aEn (λc r=>by subst r;omega) _ _ _ |(refine zAe.2 ⟨?_,?_⟩)|(intro p Q;cases Q))) ?_ ?_
 .refine aL<|pH3 0 (.pointer (some gx))<|pV3 0 179<|pV3 1 180<|pL3 2 181 (λb a=>have a:Keep (λc=>c=w.heap.size+1) W b:=kD a;(((a.d e.mod (λd=>absurd (show gx=w.heap.size+1 from d) (zj e.ae))).cell 0).trans rfl:b.cell? gx=some (.string ⟨T.toArray⟩))) ?_;refine pH3 3 (.pointer (some w.heap.size))<|pL3 4 183 (λb a=>have a:Keep (λc=>c=w.heap.size+1) W b:=kD a;(((a.d e.step (λd=>absurd (show w.heap.size=w.heap.size+1 from d) oM)).cell 3).trans rfl:b.cell? ⟨w.heap.size,3,none⟩=some (.slice AD nd cd))) ?_;refine sC3 (λ_ b a _ _ _ _ f _ _ _ i=>?_) ?_
  .replace a:Keep (λc=>c=w.heap.size+1) W b:=kD a;have X:_=_:=f 5 184 kR rfl;have ag:=fR (a.rd e.rD e.low.size (λc r d=>absurd (show c=w.heap.size+1 from d) oM));go_simp;exact kq i rfl
  refine sC3 (λ_ b a _ _ _ _ f _ _ _ i=>?_) ?_
  .replace a:Keep (λc=>c=w.heap.size+1) W b:=kD a;have V:_=_:=f 3 182 kR rfl;have Y:_=_:=f 6 185 kR rfl;go_simp;refine (aBf b I L B C oM oM).mono ?_;rintro A aj ⟨v,z,rfl,H,N⟩;exact i _ _ (aE N) ⟨v,z,rfl,(RdN.ca H (.inr rfl)).mono (zk a.size e.wQ.lt)⟩
  refine sC3 (λn b _ _ _ _ _ f _ _ _ i=>?_) ?_
  .have R:(aLa (w.heap.size+2) 1 m (q.map nv)) (n (.tmp 186)) b:=f 7 186 kR rfl;obtain ⟨v,z,Z,H⟩:=R;go_simp;exact kq i rfl
  refine pV3 8 187<|sC3 (λn b _ M _ _ P f _ _ _ i=>?_) ?_
  .have g:=M rfl;have a1:n (.tmp 4)=.pointer (some ⟨w.heap.size+1,0,none⟩):=P 4 kR;have a0:_=_:=f 9 188 kR rfl;have ac:b.cell? ⟨w.heap.size+1,0,none⟩=some (.int .i64 0):=(g.cell 0).trans rfl;have a2:=g.frozen 0;have ad:b.cell? ⟨w.heap.size+1,1,none⟩=some (.int .i64 0):=(g.cell 1).trans rfl;have a3:=g.frozen 1;have ae:b.cell? ⟨w.heap.size+1,2,none⟩=some (.slice none 0 0):=(g.cell 2).trans rfl;have a4:=g.frozen 2;have af:b.cell? ⟨w.heap.size+1,3,none⟩=some (.slice none 0 0):=(g.cell 3).trans rfl;have a5:=g.frozen 3;go_simp;exact i (.bool true) _ (aW iY) (eP g)
  exact aB
 .intro n u a f F;replace a:Keep (λc=>c=w.heap.size+1) W u:=kD a;obtain ⟨ah,J⟩:∃S,(λ_ w1=>Bk w1 (w.heap.size+1) 29 #[o0,(m:Int),(),()]) S u:=F 10 dC;simp only [zqq];clear f F;go_wp2;have G:Below w.heap.size w u:=e.low.trans (a.e e.low.size (λc r d=>absurd (show c=w.heap.size+1 from d) oM));exact kP (A1:=none) (c1:=0) (A2:=none) (c2:=0) rfl J (kF G) (RdN.nil _ _ _ _) (aV _ _ _) (K.below G O)
def aBb {gx AD nd} (cd) {F p k aA T D x} (O:T.length=x) {w} (y:Bk w gx 35 #[.string ⟨T.toArray⟩,(aA:Int)]) (E:Rd w F 1 AD nd (D.map bv)) (hB:F<=w.heap.size) (ac:0 < nd->∀G,AD=some G->G.block≠gx) (ab:x<=549755813888) (aa:nd<=549755813888) (af:-9223372036854775808<=(p:Int)/\(p:Int)<=9223372036854775807) (ad:-9223372036854775808<=(k:Int)/\(k:Int)<=9223372036854775807) (ae:0<=aA/\aA<=2147483648)
 :
 Calls prog 9 #[gx,bK 7 p k AD nd cd] w λH a1=>fP gx aA (T) ⟨0,((dY T D).length:Int), [],dY T D⟩ w a1 H:=by
 have Q:D.length=nd:=by simpa using E.1
 have c:=iI (kind:=7) (p:=p) (k:=k) (cd:=cd) y E hB;have z:=c;have U:=y.lt;have ao:(⟨T.toArray⟩:ByteArray).size=x:=(bZ T).trans O;have an:w.cell? gx=some (.string ⟨T.toArray⟩):=(y.cell 0).trans rfl;clear E c;obtain ⟨j,I⟩:=eqx (dY T D);obtain ⟨d,C⟩:=eqx j.length;rw [I,C];unfold bK;go_enter func9,ntmps9;go_wp2;obtain ⟨W,J⟩:=eqx ((w.alloc (.cells #[(7:Int),(p:Int),(k:Int),.slice AD nd cd] 32)).alloc (.cells #[o0,o0,(),()] 29));rw [J] at z⊢;have c:=z;clear J z;refine wp_region_any kR<|bM (pre:=(λ_=>True)) (pJ:=(jD (w.heap.size+2) 3 1 d (j.map nv))) [191,192,193,194,195,196,197,198,6] (λ_=>False) 8 [] [is gx,is gx,is gx,is (.string ⟨T.toArray⟩),is (.pointer (some ⟨w.heap.size,3,none⟩)),is (.slice AD nd cd),is (.string ⟨D.toArray⟩),jD (w.heap.size+2) 3 1 d (j.map nv),cO] _ rfl kR kR (trivial) (λ_ _ _ _ _=>trivial) (aCk _ _ _ _ _) (by repeat' (first | exact gK _ _ | exact fB _ | exact mT (λA u=>u.elim) _ _ _ _ |(refine zAe.2 ⟨?_,?_⟩)|(intro p V;cases V))) ?_ ?_
 .refine aL<|pH3 0 (.pointer (some gx))<|pV3 0 191<|pV3 1 192<|pL3 2 193 (λb a=>have a:Keep (λ_=>False) W b:=kD a;(((a.d c.mod (λe=>e)).cell 0).trans rfl:b.cell? gx=some (.string ⟨T.toArray⟩))) ?_;refine pH3 3 (.pointer (some w.heap.size))<|pL3 4 195 (λb a=>have a:Keep (λ_=>False) W b:=kD a;(((a.d c.step (λe=>e)).cell 3).trans rfl:b.cell? ⟨w.heap.size,3,none⟩=some (.slice AD nd cd))) ?_;refine sC3 (λ_ b a _ _ _ _ g _ _ _ r=>?_) ?_
  .replace a:Keep (λ_=>False) W b:=kD a;have a3:_=_:=g 5 196 kR rfl;have ak:=fR (a.rd c.rD c.low.size (λA u e=>e));go_simp;exact kq r rfl
  refine sC3 (λ_ b a _ _ _ _ g _ _ _ r=>?_) ?_
  .replace a:Keep (λ_=>False) W b:=kD a;have a2:_=_:=g 3 194 kR rfl;have a4:_=_:=g 6 197 kR rfl;go_simp;refine (aBf (t:=T) (p:=D) (n:=x) (m:=nd) (L:=j) (N:=d) b O Q I C oM oM).mono ?_;rintro H am ⟨o,q,rfl,v,R⟩;exact r _ _ (aE R) ⟨o,q,rfl,v.mono (zk a.size c.wQ.lt)⟩
  refine sC3 (λB b _ _ _ _ _ g _ _ _ r=>?_) ?_
  .have X:(jD (w.heap.size+2) 3 1 d (j.map nv)) (B (.tmp 198)) b:=g 7 198 kR rfl;obtain ⟨o,q,a5,v⟩:=X;go_simp;exact r _ _ (aE bR) ⟨o,q,rfl,v⟩
  exact aB
 .intro B i a g K;replace a:Keep (λ_=>False) W i:=kD a;have Y:(jD (w.heap.size+2) 3 1 d (j.map nv)) (B (.tmp 6)) i:=g 8 6 rfl;obtain ⟨al,Z⟩:∃a0,(jD (w.heap.size+2) 3 1 d (j.map nv)) a0 i:=K 8 dC;simp only [zqq];clear g K;obtain ⟨o,q,P,v⟩:=Y;rw [P];have S:Below w.heap.size w i:=c.low.trans (a.e c.low.size (λA u e=>e));have f:Bk i (w.heap.size+1) 29 #[o0,o0,(),()]:=a.d c.wQ (λe=>e);have ag:i.cell? ⟨w.heap.size+1,0,none⟩=some (.int .i64 0):=(f.cell 0).trans rfl;have a6:=f.frozen 0;have ah:i.cell? ⟨w.heap.size+1,1,none⟩=some (.int .i64 0):=(f.cell 1).trans rfl;have a7:=f.frozen 1;have ai:i.cell? ⟨w.heap.size+1,2,none⟩=some (.slice none 0 0):=(f.cell 2).trans rfl;have a8:=f.frozen 2;have aj:i.cell? ⟨w.heap.size+1,3,none⟩=some (.slice none 0 0):=(f.cell 3).trans rfl;have a9:=f.frozen 3;go_wp2;have M:=lL (v0:=.int .i64 0) (v1:=.int .i64 d) (v2:=.slice none 0 0) (v3:=.slice o d q) (zDT w.heap.size) S;rw [<-C] at*
  exact kP (s:=w.heap.size+1) (A1:=none) (c1:=0) (A2:=o) (c2:=q) rfl (eP f) (kF M) (RdN.nil _ _ _ _) ((v.o iY (λA u=>by subst u;omega)).mono oM) (y.below M U)
def cU:Nat->Int×Int
 | 0=>(1,2)
 | k+1=>((cU k).2,min ((cU k).1+(cU k).2) 2147483648)
def aAq (k):1<=(cU k).1/\(cU k).1<=(cU k).2/\(cU k).2<=2147483648:=by
 induction k with
 | zero=>decide
 | succ k a=>simp only [cU];omega
def oF (b a) (e:b<=a):(cU b).1<=(cU a).1:=by
 induction a with
 | zero=>have:b=0:=oM
         subst this;exact zFF _
 | succ a d=>
  by_cases c:b=a+1;subst c;exact zFF _;have:=d oM;have f:=aAq a;simp only [cU];omega
def least (a:Int):Int:=if a < 0 then 0 else (cU (min a.toNat 45)).1
def aLe:Nat->Int->Int->Int
 | 0,h,_=>h
 | f+1,h,l=>if least (h+1)<=l then aLe f (h+1) l else h
def aA (l:Int):Int:=aLe 45 (-1) l
end
def aIY (k):(cU (k+1)).2<=(cU (k+1)).1+(cU k).1:=by
 simp only [cU];omega
def Tr.as:∀ {e:Tr},e.Avl->(cU e.ht).1<=(e.lv:Int)
 | lf b,_=>by simp [Tr.ht,Tr.lv,cU]
 | nd l d,q=>by
  obtain ⟨r,s,v,x⟩:=q;have j:=Tr.as r;have m:=Tr.as s;have i:∀ {a b:Nat} {f g:Int},(cU a).1<=f->(cU b).1<=g->b<=a->a<=b+1->(cU (a+1)).1<=f+g:=λ{a b f g} p y t u=>by have n:(cU (a+1)).1=(cU a).2:=rfl;rw [n];rcases a with _ | a;have o:b=0:=oM;subst o;have:(cU 0).1=1:=rfl;have:(cU 0).2=2:=rfl;omega;have:=aIY a;have:=oF a b oM;omega
  show (cU (max l.ht d.ht+1)).1<=((l.lv+d.lv:Nat):Int);rcases Nat.le_total l.ht d.ht with c | c;rw [Nat.max_eq_right c];have:=i m j c oM;omega;rw [Nat.max_eq_left c];have:=i j m c oM;omega
def hB (a:Nat):Nat:=(aA ((4*(a+1)/ 128+1:Nat):Int)).toNat
structure Shp where
 len:Int
 T:Int
 leaves:Int
 nodes:Int
def Shp.cells (a:Shp):List Value:= [iv a.len,iv a.T,iv a.leaves,iv a.nodes]
def Shp.val (a:Shp):Value:=.agg #[iv a.len,iv a.T,iv a.leaves,iv a.nodes]
def cF (a:List Shp):List Value:=a.flatMap Shp.cells
def Shp.zero:Shp:=⟨0,0,0,0⟩
def Shp.add (a b:Shp):Shp:=⟨a.len+b.len,max a.T b.T,a.leaves+b.leaves,a.nodes+b.nodes⟩
def eF (a:List Shp):Shp:=a.foldl Shp.add Shp.zero
def Shp.small (a:Shp):Prop:=(-1099511627776<=a.len/\a.len<=1099511627776)/\(-1099511627776<=a.leaves/\a.leaves<=1099511627776)/\(-1099511627776<=a.nodes/\a.nodes<=1099511627776)
def eK (b i c) (d:Shp) (a:b[i]?=some d) (j:c < 4):(cF b)[i*4+c]?=d.cells[c]?:=by
 induction b generalizing i with
 | nil=>simp at a
 | cons f b e=>
  rcases i with _ | i
  .simp at a;subst a;simp only [cF,zFT,zFH,zBi];rw [zAn (by simp [Shp.cells];omega)]
  simp only [zCf] at a;have:=e i a;simp only [cF,zFT] at this⊢;rw [zAo (by simp [Shp.cells];omega)];rw [<-this];congr 1;simp [Shp.cells];omega
def uB (a):(cF a).length=a.length*4:=by
 induction a with
 | nil=>rfl
 | cons b a e=>
  have d:b.cells.length=4:=rfl;have c:cF (b::a)=b.cells++cF a:=(by simp [cF]);rw [c,zAi,e,d,zCg];omega
def aEj {b:List Shp} {a:Nat} {d:Shp} (c:b[a]?=some d):eF (b.take (a+1))=(eF (b.take a)).add d:=by
 have e:a < b.length:=(zAc.1 c).1;rw [zDo e,(zAc.1 c).2];simp [eF,zFt]
def aCH (S:Nat->Prop) (i g:Nat):Prop:=(i=0/\g=0)∨∃a,S a/\a < i/\g+a+1=i/\∀b,a < b->b < i->¬S b
section
variable {S : Nat -> Prop} {r N i g : Nat}
def aNf (a:S i):aCH S (i+1) 0:=.inr ⟨i,a,by omega,by omega,λd b c=>by omega⟩
def aOs (d:S 0) (a:¬S i) (j:aCH S i g):aCH S (i+1) (g+1):=by
 rcases j with ⟨rfl,rfl⟩|⟨l,e,m,n,f⟩;exact absurd d a;refine .inr ⟨l,e,by omega,by omega,λb k o=>?_⟩;by_cases c:b=i;rw [c];exact a;exact f b k oM
def aOt (e:sX S r N) (p:1<=r) (a:aCH S (i+1) g) (o:i<=N):g < r:=by
 rcases a with ⟨a,_⟩|⟨k,c,m,n,d⟩;omega;by_cases b:g < r;exact b;obtain ⟨l,f,j,q⟩:=e k c oM;exact absurd f (d l j oM)
end
def mkB (b:List (Nat×Nat)) (a i:Nat):Bool:=decide (∃c∈b.take a,c.2=i)
def mkV (c:List (Nat×Nat)) (b a:Nat):Array Value:=((List.range b).map λi=>Value.bool (mkB c a i)).toArray
def aLg (c b):mkV c b 0=Array.replicate b (.bool false):=by
 apply zFs;unfold mkV;rw [Array.toList_replicate];refine zDs λi=>?_;rw [zAf,List.getElem?_replicate];by_cases a:i < b
 .rw [zBx a,zCk a];simp [mkB]
 rw [zBw a,List.getElem?_eq_none_iff.2 (by rw [zCi];omega)];rfl
def uO (c a b):(mkV c a b).size=a:=by simp [mkV]
def oE (c a) {b i} (d:i < b):(mkV c b a)[i]?=some (.bool (mkB c a i)):=by
 unfold mkV;rw [zCy,zAf,zCk d];rfl
def aHU {b j a f} (m:b[a]?=some f):(mkV b j a).setIfInBounds f.2 (.bool true)=mkV b j (a+1):=by
 apply zEO;intro i;rw [zCd];by_cases l:i < j
 .rw [oE b (a+1) l,oE b a l,uO];have c:mkB b (a+1) i=(mkB b a i||decide (f.2=i)):=(by unfold mkB;rw [zEd,zEX,zCa,zCa,zCa,zAv,m];constructor;rintro ⟨k,e,c⟩;rcases zCp.1 e with e | e;exact .inl ⟨k,e,c⟩;have:k=f:=(by simpa using e);subst this;exact .inr c;rintro (⟨k,e,c⟩| c);exact ⟨k,zCp.2 (.inl e),c⟩;exact ⟨f,zCp.2 (.inr zs),c⟩);rw [c];by_cases d:f.2=i
  .rw [zBx d,zBx oM];simp [d]
  .rw [zBw d];simp [d]
 .have n:(mkV b j a)[i]?=none:=zDn (by rw [uO];omega);have o:(mkV b j (a+1))[i]?=none:=zDn (by rw [uO];omega);rw [n,o,uO];by_cases d:f.2=i
  .rw [zBx d,zBw oM]
  .rw [zBw d]
def aM0 (a i):mkB a a.length i=true↔Smp a i:=by
 unfold mkB Smp;rw [zFf,zCa]
structure SampOk (C:List (Nat×Nat)) (rs:List Nat) (r N:Nat):Prop where
 right:∀k,k < C.length->aF C k < N+1/\aS C k < N+1/\rs[aF C k]?=some (aS C k)
 dr:∀k,k+1 < C.length->aF C k < aF C (k+1)
 zero:Smp C 0
 dt:sX (Smp C) r N
 len:rs.length=N+1
 c8:1<=r
def aFw {ah aC k} (t) {m} (H) {aE aG l b5 r N E} (aP:Rd E aE 2 ah k (bU l)) (aR:Rd E aG 1 aC m (b5.map sv)) (b1:aE<=E.heap.size) (b2:aG<=E.heap.size) (aT:l.length=k) (aX:N+1=m) (bz:k<=1000) (bw:N<=1000) (bB:r<=64) (M:SampOk l b5 r N):
 Calls prog 33 #[.slice ah k t,.slice aC m H,(r:Int)] E λal bo=>al=.returned (.bool true)/\Below E.heap.size E bo:=by
 obtain ⟨x,W⟩:=eqx E.heap.size;obtain ⟨aK,ac⟩:=eqx (E.alloc (.cells (Array.replicate m (.bool false)) 4));have bj:Bk aK x 4 (mkV l m 0):=by rw [aLg,<-ac,<-W];exact kd _ _ _
 have bi:Below x E aK:=by rw [<-ac,<-W];exact bR.alloc nL _
 have aY:0 < m:=oM;obtain ⟨A,D,rfl,ar,b0⟩:=(aR.mono b2).2 aY;have ax:∀a,a < k->∀wr,Below x E wr->wr.cell? ⟨A,D+aF l a,none⟩=some (.int .i64 (aS l a:Nat)):=λa ae wr ag=>by rw [W] at ar;refine (ag.cell ar).trans (b0 _ _ ?_);rw [zAf,(M.right a oM).2.2];rfl
 have au:∃f j,0 < k->ah=some ⟨f,j,none⟩/\∀a,a < k->∀wr,Below x E wr->wr.cell? ⟨f,j+a*2,none⟩=some (.int .i64 (aF l a:Nat))/\wr.cell? ⟨f,j+a*2+1,none⟩=some (.int .i64 (aS l a:Nat)):=by rcases zBa k with aO | aO;exact ⟨0,0,λq=>by omega⟩;obtain ⟨f,j,al,aq,G⟩:=(aP.mono b1).2 aO;rw [W] at aq;refine ⟨f,j,λ_=>⟨al,λa ae wr ag=>?_⟩⟩;obtain ⟨a4,ay⟩:=cL l a oM;exact ⟨(ag.cell aq).trans (G _ _ a4),(ag.cell aq).trans (G _ _ ay)⟩
 obtain ⟨f,j,au⟩:=au;have bn:=aCa m oM;have bA:m<=1001:=oM;obtain ⟨b7,ai,a7⟩:=hqq3 ac W aT;clear ac W aT aP aR ar b0 b1 b2;go_enter func33,ntmps33;rw [ai.out];go_wp2_with fail;rw [b7.out]
 try rw [ai.out]
 clear bn;go_loopw [8] (λi wr=>∃a:Nat,a<=k/\i=.int .i64 a/\Bk wr x 4 (mkV l m a)/\Below x E wr) (λi _=>k -(intOf i).toNat)
 case atStart=>exact ⟨0,zAp _,rfl,bj,bi⟩
 case round=>
  obtain ⟨a,ae,rfl,I,v⟩:=hrel;by_cases K:a < k
  .obtain ⟨am,G⟩:=au oM;subst am;obtain ⟨aj,ak⟩:=G a K wr v;have aa:=ax a K wr v;have Z:=aX;obtain ⟨az,aA,b4⟩:=M.right a (by rw [a7.out];exact K);obtain ⟨F,a2⟩:∃F,l[a]?=some F:=⟨_,zAa (by rw [a7.out];exact K)⟩;obtain ⟨u,R⟩:=eqx (aF l a);obtain ⟨n,T⟩:=eqx (aS l a);have a3:F.2=n:=(by rw [<-T];unfold aS;rw [zAb,a2];rfl);have L:=I.set n (.bool true);rw [<-a3,aHU a2,a3] at L;rw [R] at aj aa az;rw [T] at ak aa aA;have ab:=I.frozen n;have a9:wr.cell? ⟨x,n,none⟩=some (.bool (mkB l a n)):=(I.cell n).trans (oE l a oM);have U:=v.setCell (p:=⟨x,n,none⟩) nL (.bool true);have aM:=zn ((u:Int)>=m);have aN:=zn (m<=u);have b3:(u:Int) < m:=oM;have bD:(n:Int) < m:=oM;have bE:(a:Int) < k:=oM;have aW:(mkV l m a).setIfInBounds n (.bool true)=mkV l m (a+1):=(by rw [<-a3];exact aHU a2);have aJ:=lhd aW;have aH:=(show n < m by omega);have af:x<=wr.heap.size:=(by rw [<-ai.out];exact v.size);clear aW;by_cases aV:a=0
   .have bg:=zn ((a:Int) > 0);have bh:=zn (0 < a);have y:∀e,Grow wr e->e.cell? ⟨f,j+a*2,none⟩=some (.int .i64 u)/\e.cell? ⟨f,j+a*2+1,none⟩=some (.int .i64 n)/\e.cell? ⟨A,D+u,none⟩=some (.int .i64 n):=λe c=>by have X:=v.trans (c.mono af);obtain ⟨a5,a6⟩:=G a K e X;have Q:=ax a K e X;rw [R] at a5 Q;rw [T] at a6 Q;exact ⟨a5,a6,Q⟩
    clear Z G az aA b4 a2 a3 R T L U ae aV aj ak aa ab a9;go_wp2_with fail;refine wp_region_any kR<|aQ (S:=Grow) (V:=(Vs [is (.slice (some ⟨f,j,none⟩) k t),is (a:Int),is (.pointer (some ⟨f,j+a*2,none⟩)),is (.pointer (some ⟨f,j+a*2,none⟩)),is (u:Int),is (.bool false),is (.bool false),is (.slice (some ⟨f,j,none⟩) k t),is (a:Int),is (.pointer (some ⟨f,j+a*2,none⟩)),is (.pointer (some ⟨f,j+a*2,none⟩)),is (u:Int),is (.slice (some ⟨A,D,none⟩) m H),is (m:Int),is (.bool false),is (.bool false),is (.bool false),is (.slice (some ⟨A,D,none⟩) m H),is (.slice (some ⟨f,j,none⟩) k t),is (a:Int),is (.pointer (some ⟨f,j+a*2,none⟩)),is (.pointer (some ⟨f,j+a*2,none⟩)),is (u:Int),is (.pointer (some ⟨A,D+u,none⟩)),is (n:Int),is (.slice (some ⟨f,j,none⟩) k t),is (a:Int),is (.pointer (some ⟨f,j+a*2,none⟩)),is (.pointer (some ⟨f,j+a*2+1,none⟩)),is (n:Int),is (.bool false),is (.bool false),is (.bool false),is (a:Int),is (.bool false),is (.bool false),is undef,is undef,is undef,is undef,is undef,is undef,is undef,is undef,is undef,is undef,is undef,is undef,is (.bool false),is (.bool false)])) [20,21,22,23,24,25,26,27,28,29,30,31,32,33,34,35,36,37,38,39,40,41,42,43,44,45,46,47,48,49,50,51,52,53,54,55,56,57,58,59,60,61,62,63,64,65,66,67,68,69] _ rfl kR bR (λ_ _=>Grow.trans) (eY tA2) ?_ ?_
    .refine aL<|pH 0 (.slice (some ⟨f,j,none⟩) k t)<|pH 8 (.int .i64 a)<|pW 0 20 1 21<|pV 2 22<|sC (λ_ e c _ _ _ o _ _ _ s=>?_) ?_
     .have ba:_=_:=o 3 23 kR rfl;replace c:Grow wr e:=gD c;obtain ⟨k0,B,C⟩:=y e c;go_simp;exact s _ _ bR rfl
     refine pV 4 24<|pV 5 25<|gH 26 false 0 (.slice (some ⟨f,j,none⟩) k t)<|gH 26 false 8 (.int .i64 a)<|gW 26 false 7 27 8 28<|gV 26 false 9 29<|sG 26 false (λ_ e c _ _ _ o _ _ _ s=>?_) ?_
     .have bb:_=_:=o 10 30 kR rfl;replace c:Grow wr e:=gD c;obtain ⟨k0,B,C⟩:=y e c;go_simp;exact s _ _ bR rfl
     refine gH 26 false 1 (.slice (some ⟨A,D,none⟩) m H)<|gV 26 false 12 32<|gW 26 false 11 31 13 33<|pW 6 26 14 34<|pV 15 35<|gH 36 false 1 (.slice (some ⟨A,D,none⟩) m H)<|gH 36 false 0 (.slice (some ⟨f,j,none⟩) k t)<|gH 36 false 8 (.int .i64 a)<|gW 36 false 18 38 19 39<|gV 36 false 20 40<|sG 36 false (λ_ e c _ _ _ o _ _ _ s=>?_) ?_
     .have bc:_=_:=o 21 41 kR rfl;replace c:Grow wr e:=gD c;obtain ⟨k0,B,C⟩:=y e c;go_simp;exact s _ _ bR rfl
     refine gW 36 false 17 37 22 42<|sG 36 false (λ_ e c _ _ _ o _ _ _ s=>?_) ?_
     .have bd:_=_:=o 23 43 kR rfl;replace c:Grow wr e:=gD c;obtain ⟨k0,B,C⟩:=y e c;go_simp;exact s _ _ bR rfl
     refine gH 36 false 0 (.slice (some ⟨f,j,none⟩) k t)<|gH 36 false 8 (.int .i64 a)<|gW 36 false 25 45 26 46<|gV 36 false 27 47<|sG 36 false (λ_ e c _ _ _ o _ _ _ s=>?_) ?_
     .have be:_=_:=o 28 48 kR rfl;replace c:Grow wr e:=gD c;obtain ⟨k0,B,C⟩:=y e c;go_simp;exact s _ _ bR rfl
     refine gW 36 false 24 44 29 49<|pW 16 36 30 50<|pV 31 51<|gH 52 false 8 (.int .i64 a)<|gV 52 false 33 53<|gV 52 false 34 54<|aD ?_ ?_;exact dV (d:=55) (b:=false) rfl rfl rfl kR (λ_ _ _ q=>q) (λ_=>kg _ _) (λ_=>rfl);refine aD ?_ ?_;exact dV (d:=55) (b:=false) rfl rfl rfl kR (λ_ _ _ q=>q) (λ_=>kg _ _) (λ_=>rfl);refine aD ?_ ?_;exact dV (d:=55) (b:=false) rfl rfl rfl kR (λ_ _ _ q=>q) (λ_=>kg _ _) (λ_=>rfl);refine aD ?_ ?_;exact dV (d:=55) (b:=false) rfl rfl rfl kR (λ_ _ _ q=>q) (λ_=>kg _ _) (λ_=>rfl);refine aD ?_ ?_;exact dV (d:=55) (b:=false) rfl rfl rfl kR (λ_ _ _ q=>q) (λ_=>kg _ _) (λ_=>rfl);refine aD ?_ ?_;exact dV (d:=55) (b:=false) rfl rfl rfl kR (λ_ _ _ q=>q) (λ_=>kg _ _) (λ_=>rfl);refine aD ?_ ?_;exact dV (d:=55) (b:=false) rfl rfl rfl kR (λ_ _ _ q=>q) (λ_=>kg _ _) (λ_=>rfl);refine aD ?_ ?_;exact dV (d:=55) (b:=false) rfl rfl rfl kR (λ_ _ _ q=>q) (λ_=>kg _ _) (λ_=>rfl);refine aD ?_ ?_;exact dV (d:=55) (b:=false) rfl rfl rfl kR (λ_ _ _ q=>q) (λ_=>kg _ _) (λ_=>rfl);refine aD ?_ ?_;exact dV (d:=55) (b:=false) rfl rfl rfl kR (λ_ _ _ q=>q) (λ_=>kg _ _) (λ_=>rfl);refine aD ?_ ?_;exact dV (d:=55) (b:=false) rfl rfl rfl kR (λ_ _ _ q=>q) (λ_=>kg _ _) (λ_=>rfl);refine aD ?_ ?_;exact dV (d:=55) (b:=false) rfl rfl rfl kR (λ_ _ _ q=>q) (λ_=>kg _ _) (λ_=>rfl);refine gW 52 false 35 55 47 67<|pW 32 52 48 68 ?_;exact aB
    .intro ao P c o;replace c:Grow wr P:=gD c;have an:ao (.tmp 69)=.bool false:=o 49 69 rfl;simp only [zqq];rw [an];clear o;have a1:=v.trans (c.mono af);have J:=I.below c I.lt;obtain ⟨k0,B,C⟩:=y P c;have ab:=J.frozen n;have a9:P.cell? ⟨x,n,none⟩=some (.bool (mkB l a n)):=(J.cell n).trans (oE l a aH);have L:=J.set n (.bool true);rw [aJ.out] at L;have U:=a1.setCell (p:=⟨x,n,none⟩) nL (.bool true);clear c a1 J;go_wp2_with fail;go_roundw
     case rel=>exact ⟨a+1,by omega,by go_num,L,U⟩
     case measure=>exact zr
   .have aw:=M.dr (a - 1) (by rw [a7.out];omega);rw [show a - 1+1=a by omega,R] at aw;obtain ⟨a4,ay⟩:=G (a - 1) oM wr v;obtain ⟨a8,ap⟩:=eqx (aF l (a - 1));rw [ap] at a4 aw;have bg:=zy ((a:Int) > 0);have bh:=zy (0 < a);obtain ⟨Y,av⟩:=eqx (a - 1);rw [av] at a4;have am:IntKind.i64.wrap (a - 1)=(Y:Int):=zu;have bt:=zn ((u:Int)<=a8);have bu:=zn (u<=a8);have bF:(Y:Int) < k:=oM;have y:∀e,Grow wr e->e.cell? ⟨f,j+a*2,none⟩=some (.int .i64 u)/\e.cell? ⟨f,j+a*2+1,none⟩=some (.int .i64 n)/\e.cell? ⟨A,D+u,none⟩=some (.int .i64 n)/\e.cell? ⟨f,j+Y*2,none⟩=some (.int .i64 a8):=λe c=>by have X:=v.trans (c.mono af);obtain ⟨a5,a6⟩:=G a K e X;have Q:=ax a K e X;have b6:=(G (a - 1) oM e X).1;rw [R] at a5 Q;rw [T] at a6 Q;rw [ap,av] at b6;exact ⟨a5,a6,Q,b6⟩
    clear Z G az aA b4 a2 a3 R T L U ae aV aw ap av a4 ay aj ak aa ab a9;go_wp2_with fail;refine wp_region_any kR<|aQ (S:=Grow) (V:=(Vs [is (.slice (some ⟨f,j,none⟩) k t),is (a:Int),is (.pointer (some ⟨f,j+a*2,none⟩)),is (.pointer (some ⟨f,j+a*2,none⟩)),is (u:Int),is (.bool false),is (.bool false),is (.slice (some ⟨f,j,none⟩) k t),is (a:Int),is (.pointer (some ⟨f,j+a*2,none⟩)),is (.pointer (some ⟨f,j+a*2,none⟩)),is (u:Int),is (.slice (some ⟨A,D,none⟩) m H),is (m:Int),is (.bool false),is (.bool false),is (.bool false),is (.slice (some ⟨A,D,none⟩) m H),is (.slice (some ⟨f,j,none⟩) k t),is (a:Int),is (.pointer (some ⟨f,j+a*2,none⟩)),is (.pointer (some ⟨f,j+a*2,none⟩)),is (u:Int),is (.pointer (some ⟨A,D+u,none⟩)),is (n:Int),is (.slice (some ⟨f,j,none⟩) k t),is (a:Int),is (.pointer (some ⟨f,j+a*2,none⟩)),is (.pointer (some ⟨f,j+a*2+1,none⟩)),is (n:Int),is (.bool false),is (.bool false),is (.bool false),is (a:Int),is (.bool true),is (.bool true),is (.slice (some ⟨f,j,none⟩) k t),is (a:Int),is (.pointer (some ⟨f,j+a*2,none⟩)),is (.pointer (some ⟨f,j+a*2,none⟩)),is (u:Int),is (.slice (some ⟨f,j,none⟩) k t),is (a:Int),is (Y:Int),is (.pointer (some ⟨f,j+Y*2,none⟩)),is (.pointer (some ⟨f,j+Y*2,none⟩)),is (a8:Int),is (.bool false),is (.bool false),is (.bool false)])) [20,21,22,23,24,25,26,27,28,29,30,31,32,33,34,35,36,37,38,39,40,41,42,43,44,45,46,47,48,49,50,51,52,53,54,55,56,57,58,59,60,61,62,63,64,65,66,67,68,69] _ rfl kR bR (λ_ _=>Grow.trans) (eY tA2) ?_ ?_
    .refine aL<|pH 0 (.slice (some ⟨f,j,none⟩) k t)<|pH 8 (.int .i64 a)<|pW 0 20 1 21<|pV 2 22<|sC (λ_ e c _ _ _ o _ _ _ s=>?_) ?_
     .have ba:_=_:=o 3 23 kR rfl;replace c:Grow wr e:=gD c;obtain ⟨k0,B,C,O⟩:=y e c;go_simp;exact s _ _ bR rfl
     refine pV 4 24<|pV 5 25<|gH 26 false 0 (.slice (some ⟨f,j,none⟩) k t)<|gH 26 false 8 (.int .i64 a)<|gW 26 false 7 27 8 28<|gV 26 false 9 29<|sG 26 false (λ_ e c _ _ _ o _ _ _ s=>?_) ?_
     .have bb:_=_:=o 10 30 kR rfl;replace c:Grow wr e:=gD c;obtain ⟨k0,B,C,O⟩:=y e c;go_simp;exact s _ _ bR rfl
     refine gH 26 false 1 (.slice (some ⟨A,D,none⟩) m H)<|gV 26 false 12 32<|gW 26 false 11 31 13 33<|pW 6 26 14 34<|pV 15 35<|gH 36 false 1 (.slice (some ⟨A,D,none⟩) m H)<|gH 36 false 0 (.slice (some ⟨f,j,none⟩) k t)<|gH 36 false 8 (.int .i64 a)<|gW 36 false 18 38 19 39<|gV 36 false 20 40<|sG 36 false (λ_ e c _ _ _ o _ _ _ s=>?_) ?_
     .have bc:_=_:=o 21 41 kR rfl;replace c:Grow wr e:=gD c;obtain ⟨k0,B,C,O⟩:=y e c;go_simp;exact s _ _ bR rfl
     refine gW 36 false 17 37 22 42<|sG 36 false (λ_ e c _ _ _ o _ _ _ s=>?_) ?_
     .have bd:_=_:=o 23 43 kR rfl;replace c:Grow wr e:=gD c;obtain ⟨k0,B,C,O⟩:=y e c;go_simp;exact s _ _ bR rfl
     refine gH 36 false 0 (.slice (some ⟨f,j,none⟩) k t)<|gH 36 false 8 (.int .i64 a)<|gW 36 false 25 45 26 46<|gV 36 false 27 47<|sG 36 false (λ_ e c _ _ _ o _ _ _ s=>?_) ?_
     .have be:_=_:=o 28 48 kR rfl;replace c:Grow wr e:=gD c;obtain ⟨k0,B,C,O⟩:=y e c;go_simp;exact s _ _ bR rfl
     refine gW 36 false 24 44 29 49<|pW 16 36 30 50<|pV 31 51<|gH 52 false 8 (.int .i64 a)<|gV 52 false 33 53<|gV 52 false 34 54<|gH 55 true 0 (.slice (some ⟨f,j,none⟩) k t)<|gH 55 true 8 (.int .i64 a)<|gW 55 true 36 56 37 57<|gV 55 true 38 58<|sG 55 true (λ_ e c _ _ _ o _ _ _ s=>?_) ?_
     .have br:_=_:=o 39 59 kR rfl;replace c:Grow wr e:=gD c;obtain ⟨k0,B,C,O⟩:=y e c;go_simp;exact s _ _ bR rfl
     refine gH 55 true 0 (.slice (some ⟨f,j,none⟩) k t)<|gH 55 true 8 (.int .i64 a)<|gV 55 true 42 62<|gW 55 true 41 61 43 63<|gV 55 true 44 64<|sG 55 true (λ_ e c _ _ _ o _ _ _ s=>?_) ?_
     .have bs:_=_:=o 45 65 kR rfl;replace c:Grow wr e:=gD c;obtain ⟨k0,B,C,O⟩:=y e c;go_simp;exact s _ _ bR rfl
     refine gW 55 true 40 60 46 66<|gW 52 false 35 55 47 67<|pW 32 52 48 68 ?_;exact aB
    .intro ao P c o;replace c:Grow wr P:=gD c;have an:ao (.tmp 69)=.bool false:=o 49 69 rfl;simp only [zqq];rw [an];clear o;have a1:=v.trans (c.mono af);have J:=I.below c I.lt;obtain ⟨k0,B,C,O⟩:=y P c;have ab:=J.frozen n;have a9:P.cell? ⟨x,n,none⟩=some (.bool (mkB l a n)):=(J.cell n).trans (oE l a aH);have L:=J.set n (.bool true);rw [aJ.out] at L;have U:=a1.setCell (p:=⟨x,n,none⟩) nL (.bool true);clear c a1 J;go_wp2_with fail;go_roundw
     case rel=>exact ⟨a+1,by omega,by go_num,L,U⟩
     case measure=>exact zr
  .have bm:a=k:=oM;subst bm;have c:∀i,mkB l a i=true↔Smp l i:=λi=>by rw [<-a7.out];exact aM0 l i
   have aI:=lhd I;have b8:=v;clear I v;go_wp2_with fail;go_loopw [9,10] (λg i bp=>∃w F:Nat,w<=m/\i=.int .i64 w/\g=.int .i64 F/\aCH (Smp l) w F/\F<=w/\bp=wr) (λ_ i _=>m -(intOf i).toNat)
   case atStart=>exact ⟨0,0,zAp _,rfl,rfl,.inl ⟨rfl,rfl⟩,zAs _,rfl⟩
   case round=>
    obtain ⟨w,F,bx,rfl,rfl,ad,bC,rfl⟩:=hrel;by_cases bl:w < m
    .have b9:wr.cell? ⟨x,w,none⟩=some (.bool (mkB l a w)):=(aI.cell w).trans (oE l a bl);have b3:(w:Int) < m:=oM;have Z:=aX;obtain ⟨z,v⟩:=eqx (mkB l a w);rw [v] at b9;have a0:=c w;rw [v] at a0;cases z with
     | true=>
      have bk:aCH (Smp l) (w+1) 0:=aNf (a0.1 rfl);have bv:=M.c8;have aM:=zn ((0:Int)>=r);have aN:=zn (r=0);clear Z v a0 ad;go_wp2_with fail;go_roundw
      case rel=>exact ⟨w+1,0,by omega,by go_num,by first | rfl | trivial,bk,zAp _,by first | rfl | trivial⟩
      case measure=>exact zr
     | false=>
      have aZ:¬Smp l w:=λbf=>by have:=a0.2 bf;cases this
      have aU:=aOs M.zero aZ ad;have K:=aOt M.dt M.c8 aU oM;have am:((F+1:Nat):Int)=F+1:=oM;have aM:=zn ((F:Int)+1>=r);have aN:=zn (r<=F+1);clear Z v a0 ad aZ;go_wp2_with fail;go_roundw
      case rel=>exact ⟨w+1,F+1,by omega,by go_num,by go_num,aU,by omega,by first | rfl | trivial⟩
      case measure=>exact zr
    .have bq:wr.cell? ⟨x,0,none⟩=some (.bool true):=(by rw [aI.cell 0];have:mkB l a 0=true:=(c 0).2 M.zero;rw [<-this];exact oE l a aY);have b3:(0:Int) < m:=oM;clear ad;go_wp2_with fail;go_ret;exact ⟨rfl,b8⟩
end Go.Proofs.YtlghmcogeipojaaGreatDoor
