/- Lemmas of the walk. Conditions: each its own. -/
import Derived.Test.YtknjfpcdhdmghaaGreatDoorPt32
set_option linter.all false
set_option maxRecDepth 100000
set_option maxHeartbeats 4000000
open Go.Proofs.Tryz
namespace Go.Proofs.YtknjfpcdhdmghaaGreatDoor
open Go.RowKit
def StAt.save {w d gs gl aA rate own b c} (a:StAt w d own gs gl aA rate b) (j:IsSuf (aG b) c):
 Calls prog 31 #[gl,(aA:Int)] w (gJ w d (fC (aH (aG b) c) c aA rate b.length)):=by
 obtain ⟨n,gk,k,m,e,f,i,l,g⟩:=a.tp;obtain rfl:=e.unique j;exact vF f i e g a.r1 a.r2 a.len a.max
def tP {Bw own gs gl aA rate t rs w} (n:StAt w Bw own gs gl aA rate t) (x:IsSuf (aG t) rs):
 Calls prog 11 #[gs] w (gJ w Bw (fC (aH (aG t) rs) rs aA rate t.length)):=by
 have y:∀w1,VB Bw w w1->Calls prog 31 #[gl,(aA:Int)] w1 (gJ w1 Bw (fC (aH (aG t) rs) rs aA rate t.length)):=λw1 q=>(n.G q.1).save x;obtain ⟨k,v⟩:=eqx (fC (aH (aG t) rs) rs aA rate t.length);rw [v] at y⊢;obtain ⟨f,e⟩:=eqx k.length;have s:=e;have u:=n.a;clear n x v e;unfold gJ;rw [s];go_enter func11,ntmps11;go_wp2_with fail;refine wp_region_any kR<|aQ (S:=(VB Bw)) (V:=(Vs [is gs,is gs,is gs,is gl,is gs,is gs,is (.pointer (some ⟨gs,1,none⟩)),is (aA:Int),λg i=>∃a b,g=.tuple #[.slice a f b,o0]/\Made i w.heap.size 5 1 a f b (k.map bv),λg i=>∃a b,g=.slice a f b/\Made i w.heap.size 5 1 a f b (k.map bv),is o0,λg i=>∃a b,g=.slice a f b/\Made i w.heap.size 5 1 a f b (k.map bv),is o0])) [6,7,8,9,10,11,12,13,14,15,16,2,3] _ rfl kR vR (λ_ _=>VisK.trans) (dI (by repeat' (first | exact jN _ _ | exact lE _ | exact λ_ _ _ ⟨A,C,H,I⟩ q=>⟨A,C,H,q.1.made I dC dC⟩|(refine zAe.2 ⟨?_,?_⟩)|(intro X K;cases K)))) ?_ ?_
 .refine aL<|pH 0 (.pointer (some gs))<|pV 0 6<|pV 1 7<|sC (λ_ j c _ _ _ d _ _ _ e=>?_) ?_
  .have U:_=_:=d 2 8 kR rfl;replace c:(VB Bw) w j:=bD c;have o:=c.1.d u dC dC;have D:=o.cell 0;go_simp;exact e _ _ vR rfl
  refine pH 0 (.pointer (some gs))<|pV 4 10<|pV 5 11<|sC (λ_ j c _ _ _ d _ _ _ e=>?_) ?_
  .have P:_=_:=d 6 12 kR rfl;replace c:(VB Bw) w j:=bD c;have o:=c.1.d u dC dC;have D:=o.cell 1;go_simp;exact e _ _ vR rfl
  refine sC (λ_ j c _ _ _ d _ _ _ e=>?_) ?_
  .have W:_=_:=d 3 9 kR rfl;have Q:_=_:=d 7 13 kR rfl;replace c:(VB Bw) w j:=bD c;go_simp;have p:=y j c;unfold gJ at p;rw [s] at p;refine p.mono ?_;rintro O Y ⟨a,b,rfl,m,L⟩;exact e _ _ L ⟨a,b,rfl,m.mono c.1.size⟩
  refine sC (λl j _ _ _ _ d _ _ _ e=>?_) ?_
  .have r:(λg i=>∃a b,g=.tuple #[.slice a f b,o0]/\Made i w.heap.size 5 1 a f b (k.map bv)) (l (.tmp 14)) j:=d 8 14 kR rfl;obtain ⟨a,b,E,m⟩:=r;go_simp;exact e _ _ vR ⟨a,b,rfl,m⟩
  refine sC (λl j _ _ _ _ d _ _ _ e=>?_) ?_
  .have r:(λg i=>∃a b,g=.tuple #[.slice a f b,o0]/\Made i w.heap.size 5 1 a f b (k.map bv)) (l (.tmp 14)) j:=d 8 14 kR rfl;obtain ⟨a,b,E,m⟩:=r;go_simp;exact e _ _ vR rfl
  refine sC (λl j _ _ _ _ d _ _ _ e=>?_) ?_
  .have M:(λg i=>∃a b,g=.slice a f b/\Made i w.heap.size 5 1 a f b (k.map bv)) (l (.tmp 15)) j:=d 9 15 kR rfl;obtain ⟨a,b,R,m⟩:=M;go_simp;exact e _ _ vR ⟨a,b,rfl,m⟩
  refine pV 10 16 ?_;exact aB
 .intro l z c d;replace c:(VB Bw) w z:=bD c;have N:(λg i=>∃a b,g=.slice a f b/\Made i w.heap.size 5 1 a f b (k.map bv)) (l (.tmp 2)) z:=d 11 2 rfl;have G:l (.tmp 3)=.int .i64 0:=d 12 3 rfl;simp only [zqq];rw [G];clear d;obtain ⟨a,b,F,J⟩:=N;rw [F];go_wp2_with fail;go_ret2;exact ⟨a,b,rfl,J,c⟩
def aCE (w:World) (d:Nat) (g:List UInt8) (e a:Nat) (f:Ending) (w':World):Prop:=
 ∃b c,f=.returned (.tuple #[.slice b a c,o0])/\Made w' w.heap.size 5 1 b a c (((g.drop e).take a).map bv)/\VB d w w'
def aCD {l gl rate e} (d t) {w} (A:TpAt w l gl e rate) (a3:TabW w) (aw:0 < l) (bu:d+t<=e.length):
 Calls prog 25 #[gl,(d:Int),(t:Int)] w (aCE w l e d t):=by
 obtain ⟨bE,bq,ag,bA,bD⟩:=info_parts yY;obtain ⟨u,gk,bl,c6,K,I,aP,ag,aF⟩:=A;have az:u.length=e.length+1:=by rw [K.len,aO]
 have a1:(aH (aG e) u).length=e.length+1:=by rw [bY,az]
 have V:∀o,o<=e.length->∃D,u[D]?=some o:=λo aM=>by obtain ⟨D,br,j⟩:=K.row (p:=o) (by rw [aO];omega);exact ⟨D,zAc.2 ⟨br,j⟩⟩
 have aL:∀(m D o:Nat) (g:UInt8),u[m]?=some (o+1)->u[D]?=some o->e[o]?=some g->(aH (aG e) u)[m]?=some (g.toNat+1)/\cR (aH (aG e) u) (g.toNat+1) m=D:=λm D o g Z a0 Q=>aK1 K Z a0 Q;obtain ⟨m,a9⟩:=V d oM;have aN:=gP l gl gk bl rate w I aP K aF a9;obtain ⟨c5,a6⟩:=I.a;clear aP ag;obtain ⟨P,a2⟩:=eqx e.length;rw [a2] at a1 V bu aF;have c3:0 < w.heap.size:=a3.pos;have bZ:=a6.lt;have bH:decide ((d:Int) < 0)=false:=zs
 have bI:decide ((t:Int) < 0)=false:=zs
 have aT:¬P < d:=oM;have bK:=zBy aT;obtain ⟨Y,bp⟩:=eqx (P - d);have bL:IntKind.i64.wrap (P -d)=(Y:Int):=zu
 have aU:¬Y < t:=oM;have bM:=zBy aU;obtain ⟨am,ar,ak,ba,b7,N⟩:=hqq6 I.ai I.walk a6 V aL a1;have ai:=lhd (dR (eX e) (rs:=u));obtain ⟨b2,aj,b0⟩:=hqq3 a9 a3 a2;clear a6 I V aL a1 a9 a3 K az a2 bp;unfold aCE;go_enter func25,ntmps25;go_wp2_with fail;refine (cD am N oM).mono ?_;rintro j w1 ⟨rfl,rfl⟩;go_wp2_with fail;refine (cD am N oM).mono ?_;rintro j w1 ⟨rfl,rfl⟩;go_wp2_with fail;refine aN.mono ?_;rintro j q ⟨rfl,aQ⟩;have bd:=lhd aQ;clear aN aQ bH bI aT bK bL aU bM;go_wp2_with fail;go_loopw [8,9,40] (λbO r m wr=>∃a row:Nat,a<=t/\m=.int .i64 a/\r=.int .i64 row/\u[row]?=some (d+a)/\wr.ownsRow w.heap.size 5 1 bO a (((e.drop d).take a).map bv)/\VB l w wr) (λ_ _ m _=>t -(intOf m).toNat)
 case atStart=>exact ⟨0,m,zAp _,rfl,rfl,b2,ki _ _ _ _,bd⟩
 case round=>
  obtain ⟨a,row,S,rfl,rfl,ab,U,C⟩:=hrel;by_cases c0:a < t
  .obtain ⟨g,a8⟩:∃g,e[d+a]?=some g:=⟨_,zAa (by rw [b0.out];omega)⟩;obtain ⟨X,ac⟩:=ba (d+a+1) oM;obtain ⟨ad,ae⟩:=b7 X row (d+a) g ac ab a8;obtain ⟨aX,af⟩:∃aX,aX=g.toNat+1:=⟨_,rfl⟩;rw [<-af] at ad ae;have aJ:((e.drop d).take (a+1)).map bv=((e.drop d).take a).map bv++ [bv g]:=(by rw [zAv,zBt,a8,zAz];rfl);have a5:=C.1.d ak dC dC;have bf:=a5.cell 0;have bF:=a5.lt;have c2:=C.1.size;have aS:=ar.b C.1;obtain ⟨au,bc,ao,ap,an,aq,b5,bb⟩:=hqq8 aS af ad ae U C aJ ac;clear ac ad ae U C aJ a5 aS ab a8 af;go_wp2_with fail;refine (sN au ao ap ai (by rw [N.out];omega)).mono ?_;rintro j bR ⟨rfl,a4⟩;go_wp2_with fail;refine (yG bc bR).mono ?_;rintro j z ⟨rfl,ay⟩;have E:Below wr.heap.size wr z:=a4.trans (ay.mono a4.size);have J:=(kc (F:=λb=>l<=b) E).1.own an dC dC;have W:=aq.below E;have a7:=W.1.d ak dC dC;have aD:∀b,u8.ownBlock=some b->b < z.heap.size:=λb H=>(J.lt b H).2;have aC:∀b,u8.ownBlock=some b->w.heap.size<=b:=λb H=>(J.lt b H).1;have aK:¬u8.ownBlock=some gl:=λj=>bC J a7 dC j.symm;have bw:=W.1.size;obtain ⟨b8,O,b1,b3,al,b6⟩:=hqq6 J W a7 aD aC aK;clear a4 ay E J W a7 aD aC aK bf bF an aq au;go_wp2_with fail;refine wp_region_any kR<|cC (pJ:=(λr q=>q.ownsRow w.heap.size 5 1 r (a+1) (((e.drop d).take a).map bv++ [bv g]))) l 10 [52,53,54,55,56,57,58,59,60,61] (λb=>u8.ownBlock=some b) 3 [3] [is (u8),is (bv g),λr q=>∃y,r=.slice (some ⟨y,0,none⟩) 1 1/\Bk q y 5 #[bv g]/\u8.ownBlock≠some y,cO,is gl,is gl,is gl,is gk,is (row:Int),is (X:Int)] _ rfl dC kR kR kR (b8) (λw1 q A _ a=>a.1.own A dC dC) (λ_ _ _ A a=>a.1.own A dC dC) (by repeat' (first | exact jN _ _ | exact lE _ | exact λ_ _ _ ⟨y,Z,a0,Q⟩ a=>⟨y,Z,a.1.d a0 dC dC Q,Q⟩|(refine zAe.2 ⟨?_,?_⟩)|(intro o aM;cases aM))) ?_ ?_
   .refine bB<|pH3 8 (u8)<|pH3 10 (bv g)<|sC3 (λ_ v c _ _ _ _ k _ _ _ n=>?_) ?_
    .replace c:VFB l (λb=>u8.ownBlock=some b) z v:=fD c;have av:_=_:=k 1 53 kR rfl;go_simp;exact n _ _ (aI (vR.alloc _)) ⟨_,rfl,kd _ _ _,λA=>by have:=(b3 _ A);have:=c.1.size;omega⟩
    refine sC3 (λG v c bm _ _ _ k _ _ bn n=>?_) ?_
    .replace c:VFB l (λb=>u8.ownBlock=some b) z v:=fD c;have bt:=bm rfl;have bh:_=_:=k 0 52 kR rfl;have bN:(λr q=>∃y,r=.slice (some ⟨y,0,none⟩) 1 1/\Bk q y 5 #[bv g]/\u8.ownBlock≠some y) (G (.tmp 54)) v:=k 2 54 kR rfl;obtain ⟨bj,av,bo,c1⟩:=bN;subst bn;have bz:=c.1.size;refine fK v (.tmp 52) (.tmp 54) _ rfl w.heap.size 5 bE (.int .u8 0) 1 1 underlying22 bq ag bA bD rfl dC u8 a _ bh bt v.heap.size (some ⟨bj,0,none⟩) 1 1 [bv g] av (aGt bo) (by simp [Value.oneCell',bv]) zx oM (zAk bw bz) ?_;intro bP M bs s bX;refine n _ _ (lC ⟨VisF.O ⟨s.os,s.tape,s.output,s.size,λa S aa=>s.block a S (λj=>aa j.symm)⟩,⟨s.os,s.tape,s.output,s.size,λa S aa=>s.block a S (λj=>aa (.inl j.symm))⟩⟩) bs
    refine pH3 0 (.pointer (some gl))<|pV3 4 56<|pV3 5 57<|sC3 (λ_ v c _ _ _ _ k _ _ _ n=>?_) ?_
    .replace c:VFB l (λb=>u8.ownBlock=some b) z v:=fD c;have bU:_=_:=k 6 58 kR rfl;have E:=c.1.d b1 dC dC b6;have bS:=E.cell 0;have c4:=E.lt;go_simp;exact n _ _ (aI vR) rfl
    refine pH3 9 (.int .i64 row)<|sC3 (λ_ v c _ _ R _ k _ _ _ n=>?_) ?_
    .replace c:VFB l (λb=>u8.ownBlock=some b) z v:=fD c;have bV:_=_:=k 7 59 kR rfl;have bW:_=_:=k 8 60 kR rfl;go_simp;have L:=(VFB.trans (VFB.i O) c).y (λb H R=>by have:=(al b R);omega);refine (tM (ar.b L.1) ao ap ai (by rw [N.out];omega) (aj.G L aw aj.pos) aw).mono ?_;rintro j c7 ⟨rfl,bx⟩;exact n _ _ (aI bx) rfl
    exact aB
   .intro G M x c k ax;replace c:VFB l (λb=>u8.ownBlock=some b) z M:=fD c;have ah:(λr q=>q.ownsRow w.heap.size 5 1 r (a+1) (((e.drop d).take a).map bv++ [bv g])) (G (.tmp 55)) M:=k 3 55 dC rfl;have bi:G (.tmp 61)=.int .i64 X:=k 9 61 dC rfl;obtain ⟨bQ,aW⟩:=ax 3 dC;have aV:(λr q=>q.ownsRow w.heap.size 5 1 r (a+1) (((e.drop d).take a).map bv++ [bv g])) bQ M:=aW;clear aW ax;simp only [zqq];rw [bi];clear k;have L:=(VFB.trans (VFB.i O) c).y (λb H R=>by have:=(al b R);omega);change wpAny prog Region.Mode.any _ _ (2+x) (bT 10 12) _ M;rw [show 2+x=x+1+1 by omega];generalize G (.tmp 55)=bP at ah⊢;obtain ⟨b9,be⟩:=hqq2 ah L;clear ah L c aV;refine aY (f:=x+1) (i:=10) kR ?_;refine bJ rfl rfl ?_;generalize n:wpAny prog _ _ _ (x+1) _=K5;go_simp;subst n;refine aY (f:=x) (i:=11) kR ?_;refine bJ rfl rfl ?_;generalize n:wpAny prog _ _ _ x _=K5;go_simp;subst n;refine bG kR ?_;go_wp2_with fail;go_roundw
    case rel=>exact ⟨a+1,X,by omega,by go_num,by first | rfl | trivial,bb,by rw [b5.out];exact b9,be⟩
    case measure=>exact zr
  .obtain rfl:a=t:=oM;obtain ⟨aZ,bg,rfl,aE⟩:=aR U;obtain ⟨b4,O⟩:=hqq2 aE C;clear U aE C ab;go_wp2_with fail;go_ret2;exact ⟨aZ,bg,rfl,b4,O⟩
def Made.lf {w w' m B own own' a f c e d g} (b:Made w B a f d c e g) (s:LF m w w' own own') (q:a≠233) (r:a≠191) (hB:∀i,B<=i->own i=0):Made w' B a f d c e g:=by
 have k:w'.ownsRow B a f (.slice d c e) c g:=by refine ⟨b.own.1,?_⟩;rcases b.own.2 with t |⟨j,n,o,u,l,v,x⟩;exact .inl t;exact .inr ⟨j,n,o,u,l,s.b.d v q r (λp=>p (hB j l)),x⟩
 exact ⟨k,Rd.s k,b.cap,b.max⟩
def aKK {w b g a d} (c:Bk w b g a) (e:a.size=d):Rd w w.heap.size 1 (some ⟨b,0,none⟩) d a.toList:=by
 refine ⟨by simp [e],λ_=>⟨_,0,rfl,c.lt,λi j f=>?_⟩⟩;rw [zBi,c.cell];simpa using f
def StDone (w:World) (B:Nat) (own:Nat->Nat) (gs aA rate:Nat) (T:List UInt8) (b:Told) (g:Ending) (w':World):Prop:=
 ∃c e d f own' i,g=.returned (.agg (iD b c e d f))/\StAt w' B own' gs i aA rate T/\LFS B gs w w' own own'/\Made w' w.heap.size 5 1 c b.data.length e (b.data.map bv)/\Made w' w.heap.size 3 1 d b.places.length f (b.places.map nv)/\(∀a,c=some a->own' a.block=0)/\(∀a,d=some a->own' a.block=0)
section
variable {w w1 w' : World} {B gs gl aA rate : Nat} {own own' : Nat -> Nat} {T : List UInt8}
def LFS.put (a:LFS B gs w w1 own own') {p} (c:w.heap.size<=p.block) (hB:B<=p.block) (b):LFS B gs w (w1.setCell p b) own own':=
 ⟨a.H,VisF.put a.b (.inr c) b,a.keep.setCell (.inr c) b⟩
def StAt.put (e:StAt w B own gs gl aA rate T) {p} (f:Ap own gs p.block) (b):StAt (w.setCell p b) B own gs gl aA rate T:=
 e.m (ka (F:=λa=>a=p.block) (ke _ _) (.inl rfl) b) λa c=>by have d:a=p.block:=c;rw [d];exact f
def jW {b i j a} {m l:_} {d g e c} (n:Made w d a 1 c g e l) (o:Bk w b j m) (q:a≠j) (k):Made (w.setCell ⟨b,i,none⟩ k) d a 1 c g e l:=
 wN n λr s f=>f.m (p:=⟨b,i,none⟩) (Bk.ne f o q) k
def mS {u a E F G H b c s d t e k num g j} {q:Exit} (L:q=.ret∨q=.normal) (Q:u.getD 4 undef=.pointer (some a)) (r:Bk w1 a 29 #[E,F,G,H]) (S:StAt w1 B own' gs gl aA rate T) (M:LFS B gs w w1 own own') (U:B<=w.heap.size) (n:w.heap.size<=a) (m:Ap own' gs a) (K:g.length=s) (R:j.length=t) (N:Made w1 w.heap.size 5 1 b s d (g.map bv)) (O:Made w1 w.heap.size 3 1 c t e (j.map nv)) (C:∀l,b=some l->own' l.block=0) (D:∀l,c=some l->own' l.block=0):
 bodyPost prog f8 (StDone w B own gs aA rate T ⟨k,num,g,j⟩) q ⟨u, []⟩ ((((w1.setCell a (.int .i64 k)).setCell ⟨a,1,none⟩ (.int .i64 num)).setCell ⟨a,2,none⟩ (.slice b s d)).setCell ⟨a,3,none⟩ (.slice c t e)):=by
 subst K R;have b1:=r.set 0 (.int .i64 k);have b2:=b1.set 1 (.int .i64 num);have o:=b2.set 2 (.slice b g.length d);have I:=o.set 3 (.slice c j.length e);have hB:B<=a:=oM;have y:=(((S.put (p:=a) m (.int .i64 k)).put (p:=⟨a,1,none⟩) m (.int .i64 num)).put (p:=⟨a,2,none⟩) m (.slice b g.length d)).put (p:=⟨a,3,none⟩) m (.slice c j.length e);have v:=(((M.put (p:=a) n hB (.int .i64 k)).put (p:=⟨a,1,none⟩) n hB (.int .i64 num)).put (p:=⟨a,2,none⟩) n hB (.slice b g.length d)).put (p:=⟨a,3,none⟩) n hB (.slice c j.length e);have z:=jW (i:=3) (jW (i:=2) (jW (i:=1) (jW (i:=0) N r dC (.int .i64 k)) b1 dC (.int .i64 num)) b2 dC (.slice b g.length d)) o dC (.slice c j.length e);have A:=jW (i:=3) (jW (i:=2) (jW (i:=1) (jW (i:=0) O r dC (.int .i64 k)) b1 dC (.int .i64 num)) b2 dC (.slice b g.length d)) o dC (.slice c j.length e);have J:Bk ((((w1.setCell a (.int .i64 k)).setCell ⟨a,1,none⟩ (.int .i64 num)).setCell ⟨a,2,none⟩ (.slice b g.length d)).setCell ⟨a,3,none⟩ (.slice c j.length e)) a 29 (iD ⟨k,num,g,j⟩ b d c e):=by simpa [iD] using I
 have x:=results_cell_row (P:=prog) (fn:=f8) (p:=4) (ty:=29) rfl u _ a 29 (iD ⟨k,num,g,j⟩ b d c e) (0,0) _ Q J underlying29 rfl kR;rcases L with rfl | rfl;exact bodyPost_ret x rfl ⟨b,d,c,e,own',gl,rfl,y,v,z,A,C,D⟩;exact bodyPost_end x rfl ⟨b,d,c,e,own',gl,rfl,y,v,z,A,C,D⟩
end
structure DoW (w W:World) (B:Nat) (own:Nat->Nat) (gs gl aA rate:Nat) (t:List UInt8) (kind p n:Int) (A:Option Addr) (m c:Nat):Prop where
 low:Below w.heap.size w W
 box:Bk W w.heap.size 32 #[(kind:Int),(p:Int),(n:Int),.slice A m c]
 wQ:Bk W (w.heap.size+1) 29 #[o0,o0,(),()]
 st:StAt W B own gs gl aA rate t
 ap:Ap own gs (w.heap.size+1)
 sz:W.heap.size=w.heap.size+2
 fr:∀b,w.heap.size<=b->own b=0
 bs:B<=w.heap.size
def DoW.mk' {w B own gs gl aA rate k} (e i g b f c) (a:StAt w B own gs gl aA rate k):
 DoW w ((w.alloc (.cells #[(e:Int),(i:Int),(g:Int),.slice b f c] 32)).alloc (.cells #[o0,o0,(),()] 29)) B own gs gl aA rate k e i g b f c:=by
 have d:Below w.heap.size w ((w.alloc (.cells #[(e:Int),(i:Int),(g:Int),.slice b f c] 32)).alloc (.cells #[o0,o0,(),()] 29)):=(bR.alloc nL _).alloc zs _;have j:=kd (w.alloc (.cells #[(e:Int),(i:Int),(g:Int),.slice b f c] 32)) 29 #[o0,o0,(),()];rw [sZ0] at j;exact ⟨d,(kd w _ _).alloc _,j,a.G (kb d),⟨a.fresh oM,by have:=a.a.lt;omega⟩,by rw [sZ0,sZ0],λl d=>a.fresh d,a.size⟩
def fO {B own gs gl aA rate s} (m) {c} (l k f j g n) {w} (p:StAt w B own gs gl aA rate s) (x:c=1∨c=2∨c=3) (r:∀d,StAt d B own gs gl aA rate s->LFS B gs w d own own->Calls prog 23 #[gs,.agg #[(c:Int),(l:Int),(k:Int),.slice f j g]] d λo w'=>o=.returned (.int .i64 n)/\∃own',StAt w' B own' gs gl aA rate m/\LFS B gs d w' own own'):
 Calls prog 8 #[gs,bK c l k f j g] w (StDone w B own gs aA rate m ⟨n,0, [], []⟩):=by
 have a:=DoW.mk' c l k f j g p;have q:=r _ a.st (LFS.j B gs own a.low);have A:=a.box.cell 0;have C:=a.box.cell 1;have D:=a.box.cell 2;have E:=a.box.cell 3;clear r p;unfold bK;rcases x with rfl | rfl | rfl
 all_goals
  go_enter func8,ntmps8;go_wp2_with fail;refine q.mono ?_;rintro o w1 ⟨rfl,own',z,e⟩;have b:=e.d a.wQ a.ap.x a.ap.ne dC dC;have v:=a.ap.step e a.wQ.lt;have y:=(LFS.j B gs own a.low).trans e;have t:=a.bs;have J:=b.cell 0;have K:=b.cell 1;have L:=b.cell 2;have M:=b.cell 3;have F:=b.frozen 0;have G:=b.frozen 1;have H:=b.frozen 2;have I:=b.frozen 3;clear e q a;go_wp2_with fail;exact mS (.inl rfl) rfl b z y t oM v rfl rfl (aV _ _ _) (aV _ _ _) (λu i=>by cases i) (λu i=>by cases i)
def aA7 {B own gs gl aA rate e} (y x g v i) {w} (n:StAt w B own gs gl aA rate e):
 Calls prog 8 #[gs,bK 8 y x g v i] w (StDone w B own gs aA rate e ⟨0,0, [], []⟩):=by
 obtain ⟨d,f⟩:∃d,IsSuf (aG e) d:=by obtain ⟨d,gk,N,U,f,_⟩:=n.tp;exact ⟨d,f⟩
 have a:=DoW.mk' 8 y x g v i n;have l:=tP a.st f;unfold gJ at l;obtain ⟨S,p⟩:=eqx ((fC (aH (aG e) d) d aA rate e.length).length);rw [p] at l;have r:=λg i w1 (c:StAt w1 B own gs gl aA rate e)=>aA4 g i c f c.n127 c.r1 c.r2 c.len c.max p;have H:=a.box.cell 0;clear n p f;unfold bK;go_enter func8,ntmps8;go_wp2_with fail;refine l.mono ?_;rintro D w1 ⟨z,C,rfl,k,m⟩;have u:=a.st.G m.1;have t:=(LFS.j B gs own a.low).trans (LFS.i gs own m);have q:=m.1.d a.wQ dC dC;have s:=r z C w1 u k.rd k.cap k.max;clear u k m l r;go_wp2_with fail;refine s.mono ?_;rintro D V ⟨rfl,own',M,G,j⟩;have b:=j.d q a.ap.x a.ap.ne dC dC;have E:=a.ap.step j q.lt;have F:=t.trans j;have O:=b.cell 0;have P:=b.cell 1;have Q:=b.cell 2;have R:=b.cell 3;have I:=b.frozen 0;have J:=b.frozen 1;have K:=b.frozen 2;have L:=b.frozen 3;clear j s t q;go_wp2_with fail;exact mS (.inl rfl) rfl b G F a.bs oM E rfl rfl (aV _ _ _) (aV _ _ _) (λA o=>by cases o) (λA o=>by cases o)
def oT {B own gs gl aA rate G} (r u y E z) {w} (A:StAt w B own gs gl aA rate G) (l n nd) (Z:l.length=nd) (M:∀m,StAt m B own gs gl aA rate G->LFS B gs w m own own->Calls prog 25 #[gl,(r:Int),(u:Int)] m λJ w'=>∃a b,J=.returned (.tuple #[.slice a nd b,(n:Int)])/\Made w' m.heap.size 5 1 a nd b (l.map bv)/\VB B m w'):
 Calls prog 8 #[gs,bK 5 r u y E z] w (StDone w B own gs aA rate G ⟨n,0,l, []⟩):=by
 have i:=DoW.mk' 5 r u y E z A;have x:=λe (t:VB B _ e)=>M e (i.st.G t.1) ((LFS.j B gs own i.low).trans (LFS.i gs own t));have ak:=A.a.lt;have O:=i.box.cell 0;have P:=i.box.cell 1;have Q:=i.box.cell 2;have a7:=i.st.a.cell 0;have H:=x;clear x A M;unfold bK;go_enter func8,ntmps8;go_wp2_with fail;generalize (w.alloc (.cells #[(5:Int),(r:Int),(u:Int),.slice y E z] 32)).alloc (.cells #[o0,o0,(),()] 29)=m at*
 clear O P Q a7;refine wp_region_any kR<|aQ (S:=(VB B)) (V:=(Vs [is gs,is gs,is gs,is gl,is (.pointer (some ⟨w.heap.size,1,none⟩)),is (.int .i64 r),is (.pointer (some ⟨w.heap.size,2,none⟩)),is (.int .i64 u),λf g=>∃a b,f=.tuple #[.slice a nd b,(n:Int)]/\Made g w.heap.size 5 1 a nd b (l.map bv),λf g=>∃a b,f=.tuple #[.slice a nd b,(n:Int)]/\Made g w.heap.size 5 1 a nd b (l.map bv),λf g=>∃a b,f=.slice a nd b/\Made g w.heap.size 5 1 a nd b (l.map bv),is (.int .i64 n),λf g=>∃a b,f=.slice a nd b/\Made g w.heap.size 5 1 a nd b (l.map bv),is (.int .i64 n)])) [34,35,36,37,38,39,40,41,42,33,43,44,5,6] _ rfl kR vR (λ_ _=>VisK.trans) (dI (by repeat' (first | exact jN _ _ | exact lE _ | exact λ_ _ _ ⟨a,b,U,W⟩ t=>⟨a,b,U,t.1.made W dC dC⟩|(refine zAe.2 ⟨?_,?_⟩)|(intro r x;cases x)))) ?_ ?_
 .refine aL<|pH 0 (.pointer (some gs))<|pV 0 34<|pV 1 35<|sC (λ_ e c _ _ _ d _ _ _ j=>?_) ?_
  .have a8:_=_:=d 2 36 kR rfl;replace c:(VB B) m e:=bD c;have X:=c.1.d i.st.a dC dC;have I:=X.cell 0;go_simp;exact j _ _ vR rfl
  refine pH 3 (.pointer (some w.heap.size))<|sC (λ_ e c _ _ _ d _ _ _ j=>?_) ?_
  .have aa:_=_:=d 4 38 kR rfl;replace c:(VB B) m e:=bD c;have D:=c.1.d i.box dC dC;have I:=D.cell 1;go_simp;exact j _ _ vR rfl
  refine pH 3 (.pointer (some w.heap.size))<|sC (λ_ e c _ _ _ d _ _ _ j=>?_) ?_
  .have ac:_=_:=d 6 40 kR rfl;replace c:(VB B) m e:=bD c;have D:=c.1.d i.box dC dC;have I:=D.cell 2;go_simp;exact j _ _ vR rfl
  refine sC (λ_ e c _ _ _ d _ _ _ j=>?_) ?_
  .have a9:_=_:=d 3 37 kR rfl;have ab:_=_:=d 5 39 kR rfl;have ad:_=_:=d 7 41 kR rfl;replace c:(VB B) m e:=bD c;have a2:=c.1.size;go_simp;refine (H e c).mono ?_;rintro J aq ⟨a,b,rfl,v,a1⟩;exact j _ _ a1 ⟨a,b,rfl,⟨cG v.own (zAk i.low.size a2),v.rd,v.cap,v.max⟩⟩
  refine sC (λo e _ _ _ _ d _ _ _ j=>?_) ?_
  .have a4:(λf g=>∃a b,f=.tuple #[.slice a nd b,(n:Int)]/\Made g w.heap.size 5 1 a nd b (l.map bv)) (o (.tmp 42)) e:=d 8 42 kR rfl;obtain ⟨a,b,ae,p⟩:=a4;go_simp;exact j _ _ vR ⟨a,b,rfl,p⟩
  refine sC (λo e _ _ _ _ d _ _ _ j=>?_) ?_
  .have F:(λf g=>∃a b,f=.tuple #[.slice a nd b,(n:Int)]/\Made g w.heap.size 5 1 a nd b (l.map bv)) (o (.tmp 33)) e:=d 9 33 kR rfl;obtain ⟨a,b,R,p⟩:=F;go_simp;exact j _ _ vR ⟨a,b,rfl,p⟩
  refine sC (λo e _ _ _ _ d _ _ _ j=>?_) ?_
  .have F:(λf g=>∃a b,f=.tuple #[.slice a nd b,(n:Int)]/\Made g w.heap.size 5 1 a nd b (l.map bv)) (o (.tmp 33)) e:=d 9 33 kR rfl;obtain ⟨a,b,R,p⟩:=F;go_simp;exact j _ _ vR rfl
  refine sC (λo e _ _ _ _ d _ _ _ j=>?_) ?_
  .have a5:(λf g=>∃a b,f=.slice a nd b/\Made g w.heap.size 5 1 a nd b (l.map bv)) (o (.tmp 43)) e:=d 10 43 kR rfl;obtain ⟨a,b,af,p⟩:=a5;go_simp;exact j _ _ vR ⟨a,b,rfl,p⟩
  refine pV 11 44 ?_;exact aB
 .intro o N c d;replace c:(VB B) m N:=bD c;have a6:(λf g=>∃a b,f=.slice a nd b/\Made g w.heap.size 5 1 a nd b (l.map bv)) (o (.tmp 5)) N:=d 12 5 rfl;have L:o (.tmp 6)=.int .i64 n:=d 13 6 rfl;simp only [zqq];rw [L];clear d;obtain ⟨a,b,K,p⟩:=a6;rw [K];clear K L;have q:=c.1.d i.wQ dC dC;have Y:=(LFS.j B gs own i.low).trans (LFS.i gs own c);have a0:=i.st.G c.1;have a3:∀s,a=some s->own s.block=0:=λs C=>by subst C;exact i.fr _ (p.own.lt (k:=s.block) rfl).1
  have al:=q.cell 0;have am:=q.cell 1;have an:=q.cell 2;have ao:=q.cell 3;have ag:=q.frozen 0;have ah:=q.frozen 1;have ai:=q.frozen 2;have aj:=q.frozen 3;clear c H;go_wp2_with fail;exact mS (.inl rfl) rfl q a0 Y i.bs oM i.ap Z rfl p (aV _ _ _) a3 (λs C=>by cases C)
def sT {B own gs gl aA rate o p} (s x) {k g} (m) {w} (q:StAt w B own gs gl aA rate o) (C:ArgZ w B own gs k g p) (aw:g<=1000000):
 Calls prog 8 #[gs,bK 6 s x k g m] w (StDone w B own gs aA rate o ⟨0,((dY o p).length:Int), [], []⟩):=by
 have l:=DoW.mk' 6 s x k g m q;have a0:p.length=g:=by simpa using C.1.1
 have I:=C.b l.low;have av:=q.a.lt;have K:∀b e,VB B ((w.alloc (.cells #[(6:Int),(s:Int),(x:Int),.slice k g m] 32)).alloc (.cells #[o0,o0,(),()] 29)) b->Bk b e 22 #[.slice k g m]->Calls prog 26 #[gl,.slice (some ⟨e,0,none⟩) 1 1] b λG w'=>G=.returned (.int .i64 ((dY o p).length:Int))/\VB B b w':=λb e M a1=>by
  have a8:TxtAt b B gl o:=by obtain ⟨ac,gk,au,aD,ae,af,aG,aH,ag⟩:=(l.st.G M.1).tp;exact ⟨ac,ae,af.ai,ag⟩
  have Z:=(I.step (LFS.i gs own M)).1;have:=aDz (Bw:=B) (gl:=gl) (t:=o) (A0:=(some ⟨e,0,none⟩)) (m0:=1) (B:=b.heap.size) (ss:=[(⟨k,g,m,p⟩:Sl)]) (w:=b) 1 p (by simp [iV]) a8 (aKK a1 rfl) (λaE L=>by simp at L;subst L;exact Z) nL oM oM;rw [<-aGD,uH] at this;exact this
 obtain ⟨z,N⟩:=eqx ((dY o p).length);rw [N] at K⊢;have S:=l.box.cell 0;clear q C I a0 N;unfold bK;go_enter func8,ntmps8;go_wp2_with fail;generalize (w.alloc (.cells #[(6:Int),(s:Int),(x:Int),.slice k g m] 32)).alloc (.cells #[o0,o0,(),()] 29)=W at*
 clear S;refine wp_region_any kR<|cC (pre:=(λ_=>True)) (pJ:=(λu _=>u=.agg #[o0,(z:Int),(),()])) B 9 [50,51,52,53,54,55,56,57,58] (λ_=>False) 8 [] [is gs,is gs,is gs,is gl,is (.pointer (some ⟨w.heap.size,3,none⟩)),is (.slice k g m),λF E=>∃e,F=.slice (some ⟨e,0,none⟩) 1 1/\Bk E e 22 #[.slice k g m],is (z:Int),cO] _ rfl dC kR kR kR (trivial) (λ_ _ _ _ _=>trivial) (λ_ _ _ q _=>q) (by repeat' (first | exact jN _ _ | exact lE _ | exact λ_ _ _ ⟨e,X,Y⟩ aa=>⟨e,X,aa.1.d Y dC dC (λc=>c)⟩|(refine zAe.2 ⟨?_,?_⟩)|(intro s a6;cases a6))) ?_ ?_
 .refine bB<|pH3 0 (.pointer (some gs))<|pV3 0 50<|pV3 1 51<|sC3 (λ_ b a _ _ _ _ d _ _ _ j=>?_) ?_
  .replace a:VFB B (λ_=>False) W b:=fD a;have ah:_=_:=d 2 52 kR rfl;have r:=a.y (λ_ _ c=>c);have a3:=r.1.d l.st.a dC dC;have U:=a3.cell 0;go_simp;exact j _ _ (aI vR) rfl
  refine pH3 3 (.pointer (some w.heap.size))<|sC3 (λ_ b a _ _ _ _ d _ _ _ j=>?_) ?_
  .replace a:VFB B (λ_=>False) W b:=fD a;have aj:_=_:=d 4 54 kR rfl;have r:=a.y (λ_ _ c=>c);have a4:=r.1.d l.box dC dC;have U:=a4.cell 3;go_simp;exact j _ _ (aI vR) rfl
  refine sC3 (λ_ _ _ _ _ _ _ d _ _ _ j=>?_) ?_
  .have ak:_=_:=d 5 55 kR rfl;go_simp;exact j _ _ (aI (vR.alloc _)) ⟨_,rfl,kd _ _ _⟩
  refine sC3 (λA b a _ _ _ _ d _ _ _ j=>?_) ?_
  .replace a:VFB B (λ_=>False) W b:=fD a;have ai:_=_:=d 3 53 kR rfl;have ab:(λF E=>∃e,F=.slice (some ⟨e,0,none⟩) 1 1/\Bk E e 22 #[.slice k g m]) (A (.tmp 56)) b:=d 6 56 kR rfl;have r:=a.y (λ_ _ c=>c);obtain ⟨V,al,a2⟩:=ab;go_simp;refine (K b V r a2).mono ?_;rintro G aF ⟨rfl,a9⟩;exact j _ _ (aI a9) rfl
  refine sC3 (λ_ _ _ _ _ _ _ d _ _ _ j=>?_) ?_
  .have am:_=_:=d 7 57 kR rfl;go_simp;exact j _ _ (lC (VFB.i vR)) rfl
  exact aB
 .intro A y c a d J;replace a:VFB B (λ_=>False) W y:=fD a;have O:(λu _=>u=.agg #[o0,(z:Int),(),()]) (A (.tmp 58)) y:=d 8 58 dC rfl;obtain ⟨ad,Q⟩:=J 8 dC;have P:(λu _=>u=.agg #[o0,(z:Int),(),()]) ad y:=Q;clear Q J;simp only [zqq];clear d;have H:=O;rw [H];have v:=a.y (λ_ _ c=>c);clear P O H a;have n:=v.1.d l.wQ dC dC;have a7:=l.st.G v.1;have a5:=(LFS.j B gs own l.low).trans (LFS.i gs own v);have ax:=n.cell 0;have ay:=n.cell 1;have az:=n.cell 2;have aC:=n.cell 3;have an:=n.frozen 0;have ao:=n.frozen 1;have aq:=n.frozen 2;have ar:=n.frozen 3;clear v;change wpAny prog Region.Mode.any _ _ (1+c) (bT 9 10) _ y;rw [zCt 1 c];refine aY (f:=c) (i:=9) kR ?_;refine bJ rfl rfl ?_;generalize j:wpAny prog _ _ _ c _=K5;go_simp;subst j;refine bG kR ?_;go_wp2_with fail;exact mS (.inl rfl) rfl n a7 a5 l.bs oM l.ap rfl rfl (aV _ _ _) (aV _ _ _) (λR D=>by cases D) (λR D=>by cases D)
def qM {B own gs gl aA rate n m} (z F) {l i} (o) {w} (G:StAt w B own gs gl aA rate n) (J:ArgZ w B own gs l i m) (au:i<=1000000):
 Calls prog 8 #[gs,bK 7 z F l i o] w (StDone w B own gs aA rate n ⟨0,((dY n m).length:Int), [],dY n m⟩):=by
 have g:=DoW.mk' 7 z F l i o G;have a3:m.length=i:=by simpa using J.1.1
 have P:=J.b g.low;have ar:=G.a.lt;have A:∀d f,VB B ((w.alloc (.cells #[(7:Int),(z:Int),(F:Int),.slice l i o] 32)).alloc (.cells #[o0,o0,(),()] 29)) d->Bk d f 22 #[.slice l i o]->Calls prog 27 #[gl,.slice (some ⟨f,0,none⟩) 1 1] d λN w'=>∃a b,N=.returned (.slice a (dY n m).length b)/\Made w' d.heap.size 3 1 a (dY n m).length b ((dY n m).map nv)/\VB B d w':=λd f U a4=>by have a2:=(P.step (LFS.i gs own U)).1;have:=aNJ (Bw:=B) (gl:=gl) (rate:=rate) (t:=n) (A0:=(some ⟨f,0,none⟩)) (m0:=1) (B:=d.heap.size) (ss:=[(⟨l,i,o,m⟩:Sl)]) (w:=d) 1 m (by simp [iV]) (g.st.G U.1).tp (aKK a4 rfl) (λaz R=>by simp at R;subst R;exact a2) nL oM oM;unfold aEb at this;rw [uH] at this;exact this
 obtain ⟨v,Q⟩:=eqx (dY n m);rw [Q] at A⊢;obtain ⟨r,y⟩:=eqx v.length;rw [y] at A⊢;have Z:=g.box.cell 0;have Y:=y;clear G J P a3 Q y;unfold bK;go_enter func8,ntmps8;go_wp2_with fail;generalize (w.alloc (.cells #[(7:Int),(z:Int),(F:Int),.slice l i o] 32)).alloc (.cells #[o0,o0,(),()] 29)=W at*
 clear Z;refine wp_region_any kR<|aQ (S:=(VB B)) (V:=(Vs [is gs,is gs,is gs,is gl,is (.pointer (some ⟨w.heap.size,3,none⟩)),is (.slice l i o),λL j=>∃f,L=.slice (some ⟨f,0,none⟩) 1 1/\Bk j f 22 #[.slice l i o],λu j=>∃a b,u=.slice a r b/\Made j w.heap.size 3 1 a r b (v.map nv),λu j=>∃a b,u=.slice a r b/\Made j w.heap.size 3 1 a r b (v.map nv)])) [61,62,63,64,65,66,67,68,7] _ rfl kR vR (λ_ _=>VisK.trans) (dI (by repeat' (first | exact jN _ _ | exact lE _ | exact λ_ _ _ ⟨f,H,I⟩ E=>⟨f,H,E.1.d I dC dC⟩| exact λ_ _ _ ⟨a,b,H,I⟩ E=>⟨a,b,H,E.1.made I dC dC⟩|(refine zAe.2 ⟨?_,?_⟩)|(intro z a9;cases a9)))) ?_ ?_
 .refine aL<|pH 0 (.pointer (some gs))<|pV 0 61<|pV 1 62<|sC (λ_ d c _ _ _ e _ _ _ p=>?_) ?_
  .have ag:_=_:=e 2 63 kR rfl;replace c:(VB B) W d:=bD c;have a6:=c.1.d g.st.a dC dC;have a0:=a6.cell 0;go_simp;exact p _ _ vR rfl
  refine pH 3 (.pointer (some w.heap.size))<|sC (λ_ d c _ _ _ e _ _ _ p=>?_) ?_
  .have ai:_=_:=e 4 65 kR rfl;replace c:(VB B) W d:=bD c;have a7:=c.1.d g.box dC dC;have a0:=a7.cell 3;go_simp;exact p _ _ vR rfl
  refine sC (λ_ _ _ _ _ _ e _ _ _ p=>?_) ?_
  .have aj:_=_:=e 5 66 kR rfl;go_simp;exact p _ _ (vR.alloc _) ⟨_,rfl,kd _ _ _⟩
  refine sC (λx d c _ _ _ e _ _ _ p=>?_) ?_
  .have ah:_=_:=e 3 64 kR rfl;have ad:(λL j=>∃f,L=.slice (some ⟨f,0,none⟩) 1 1/\Bk j f 22 #[.slice l i o]) (x (.tmp 67)) d:=e 6 67 kR rfl;replace c:(VB B) W d:=bD c;obtain ⟨a1,ak,a5⟩:=ad;have ac:=c.1.size;go_simp;refine (A d a1 c a5).mono ?_;rintro N aC ⟨a,b,rfl,C,ab⟩;exact p _ _ ab ⟨a,b,rfl,⟨cG C.own (zAk g.low.size ac),C.rd,C.cap,C.max⟩⟩
  refine sC (λx d _ _ _ _ e _ _ _ p=>?_) ?_
  .have ae:(λu j=>∃a b,u=.slice a r b/\Made j w.heap.size 3 1 a r b (v.map nv)) (x (.tmp 68)) d:=e 7 68 kR rfl;obtain ⟨a,b,al,D⟩:=ae;go_simp;exact p _ _ vR ⟨a,b,rfl,D⟩
  exact aB
 .intro x X c e;replace c:(VB B) W X:=bD c;have af:(λu j=>∃a b,u=.slice a r b/\Made j w.heap.size 3 1 a r b (v.map nv)) (x (.tmp 7)) X:=e 8 7 rfl;simp only [zqq];clear e;obtain ⟨a,b,O,D⟩:=af;rw [O];clear O;have q:=c.1.d g.wQ dC dC;have a8:=(LFS.j B gs own g.low).trans (LFS.i gs own c);have aa:=g.st.G c.1;have y:∀s,a=some s->own s.block=0:=λs K=>by subst K;have:=(D.own.lt (k:=s.block) rfl).1;by_cases M:own s.block=0;exact M;exact absurd (g.fr s.block this) M
  have av:=q.cell 0;have aw:=q.cell 1;have ax:=q.cell 2;have ay:=q.cell 3;have am:=q.frozen 0;have an:=q.frozen 1;have ao:=q.frozen 2;have aq:=q.frozen 3;clear c A;go_wp2_with fail;exact mS (.inl rfl) rfl q aa a8 g.bs oM g.ap rfl Y (aV _ _ _) D (λs K=>by cases K) y
end Go.Proofs.YtknjfpcdhdmghaaGreatDoor
