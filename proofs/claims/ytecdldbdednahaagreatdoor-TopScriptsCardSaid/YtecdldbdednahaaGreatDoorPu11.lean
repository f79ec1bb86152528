/- Lemmas of the walk. Conditions: each its own. -/
import Derived.Test.YtecdldbdednahaaGreatDoorPu10
import Derived.Test.YtecdldbdednahaaGreatDoorProg
import Derived.Test.YtecdldbdednahaaGreatDoorShl
import Derived.Test.YtecdldbdednahaaGreatDoorSht
import Derived.Test.YtecdldbdednahaaGreatDoorShi
import Derived.Test.YtecdldbdednahaaGreatDoorShs
set_option linter.all false
set_option maxRecDepth 100000
set_option maxHeartbeats 4000000
open Go.Proofs.Tryz
namespace Go.Proofs.YtecdldbdednahaaGreatDoor
section
open Go.RowKit
def sW (d a i B b w) (p:Rd w B 1 d a (b.map bv)) (Z:B<=w.heap.size) (a5:a<=1000000):
 Calls prog 125 #[.slice d a i] w fun e w'=>∃r C,e=.returned (.slice r (eF b).length C)/\Made w' w.heap.size 5 1 r (eF b).length C ((eF b).map bv)/\Below w.heap.size w w':=by
 have o:b.length=a:=by have:=p.1;simpa using this
 obtain ⟨k0,l⟩:=eqx ((cC a).length);have a4:k0<=11:=by rw [<-l];exact dJ a
 obtain ⟨A,j⟩:=eqx ((eF b).length);have a2:A<=2000000:=by rw [<-j,kC,o,l];omega
 obtain ⟨P,W,R,U⟩:=hqq4 (p.mono Z) l j o;have a3:=aFW b;rw [j];clear p l j o;go_enter func125,ntmps125;go_wp2_with fail;refine (zA _ _ _ _ [a] _ (cC a) k0 (qS a) W.out (Rd.made _ _ 1 1 _ rfl) nL (by simp;omega) oM).mono ?_;rintro e w1 ⟨s,D,rfl,J,F⟩;have k:=((kh w.heap.size w).alloc nL _).trans (F.mono (by simp));have M:=J.rd;obtain ⟨m,y,v⟩:=hqq3 (P.out.below k) M k;have q:=k.size;clear J F k M;go_wp2_with fail;refine (uJ d _ a i _ b _ (((m.out.alloc q _).mono (by simp;omega))) oM (Rd.made _ _ 1 1 _ rfl)).mono ?_;rintro e a9 ⟨rfl,G⟩;have f:=((kh w1.heap.size w1).alloc nL _).trans (G.mono (by simp));obtain ⟨u,z,x⟩:=hqq3 (m.out.below (f.mono q)) (y.out.below f) (v.out.trans (f.mono q));have a6:=f.size;clear f G m y v;go_wp2_with fail;refine (aAS (oC b) _).mono ?_;rintro e c ⟨t,E,rfl,K,g⟩;have N:=K.rd;obtain ⟨Q,Y,V,n⟩:=hqq4 (u.out.below (g.mono oM)) (z.out.below (g.mono oM)) N (x.out.trans (g.mono oM));have a7:=g.size;clear g K N u z x;go_wp2_with fail
 have I:=nG (some ⟨c.heap.size,0,none⟩) 3 3 (c.heap.size+1) [⟨s,k0,D,cC a⟩,⟨d,a,i,b⟩,⟨t,4,E,sH (oC b)⟩] (eF b) A (by unfold eF;rw [U.out];simp [iN]) R.out (c.alloc (.cells #[.slice s k0 D,.slice d a i,.slice t 4 E] 22)) ((Rd.made c _ 1 3 _ rfl).mono (by simp)) (by
  intro a8 O;simp at O;rcases O with rfl | rfl | rfl;exact (Y.out.mono oM).alloc oM _ |>.mono oM;exact (Q.out.mono oM).alloc oM _ |>.mono oM
  · exact (V.out.alloc oM _).mono oM) (by simp) oM oM
 refine I.mono ?_;clear I;rintro e aa ⟨a0,a1,rfl,L,H⟩;have X:=lhd (L.mono (B':=w.heap.size) (by simp;have:=n.out.size;omega));have S:=lhd (n.out.trans ((((kh c.heap.size c).alloc nL _).trans (H.mono (by simp))).mono n.out.size));clear L H;go_wp2_with fail;go_ret;exact ⟨_,_,rfl,X.out,S.out⟩
def nY (b:List Nat) (c a:Nat):Array Value:=((b.take a).map sv++List.replicate (c - a) (Value.int .i64 0)).toArray
def aEN (b a):nY b a 0=Array.replicate a (Value.int .i64 0):=by
 unfold nY;apply Array.ext';simp
def aGO (a b) (c:a.length=b):nY a b b=(a.map sv).toArray:=by
 unfold nY;rw [zAg oM,Nat.sub_self];simp
def aEO (b a c) (d:b.length=a) (e:c<=a):(nY b a c).size=a:=by
 unfold nY;simp;omega
def aGN {b} {c a e:Nat} (i:b.length=c) (d:b[a]?=some e):(nY b c a).setIfInBounds a (.int .i64 (e:Int))=nY b c (a+1):=by
 have j:=(zAc.1 d).1;apply Array.ext';unfold nY;rw [Array.toList_setIfInBounds,zAv,d];have f:c - a=(c -(a+1))+1:=oM;rw [f,List.replicate_succ];have g:((b.take a).map sv).length=a:=by rw [zBc,zAj];omega
 show List.set ((b.take a).map sv++(Value.int .i64 0::List.replicate (c -(a+1)) (Value.int .i64 0))) a _=_;rw [List.set_append_right _ _ oM,g,Nat.sub_self,zAz,zCo];rfl
def aEE {w B a n c b} (g:Bk w a c b.toArray) (i:B<=a) (e:b.length=n) (d:n<=maxLen):Made w B c 1 (some ⟨a,0,none⟩) n n b:=by
 have f:w.ownsRow B c 1 (.slice (some a) n n) n b:=⟨by omega,.inr ⟨a,n,b.toArray,rfl,i,g,zAs _,d,by simp [e],by rw [zBl,zAg (by simp [e])]⟩⟩;exact ⟨f,Rd.of_own f,zAs _,d⟩
def jN (w:World) (B:Nat) (a:List Nat) (d:Ending) (w':World):Prop:=∃b c,d=.returned (.slice b a.length c)/\Made w' w.heap.size 3 1 b a.length c (a.map sv)/\VB B w w'
def aDf (B e c w) (C:WaveAt w B e c) (D:∀a6∈c,a6 < 257) (I:c.length<=1000):
 Calls prog 193 #[e] w (jN w B c):=by
 have O:=C;obtain ⟨a2,q,k,f,a5⟩:=C;obtain ⟨b,o⟩:=eqx c.length;rw [o] at f;have a1:w.cell? ⟨e,9,none⟩=some (.int .i64 (b:Int)):=(f.cell 9).trans (bI q b k).2.2.2.2.2.2.2.2.2.1;have A:w.cell? ⟨e,10,none⟩=some (.int .i64 k):=(f.cell 10).trans (bI q b k).2.2.2.2.2.2.2.2.2.2;have ad:=f.lt;have a4:=nR b oM;obtain ⟨a0,U,S,d,X⟩:=hqq5 O f D o I;rw [o] at I;clear O f D o a5;unfold jN;go_enter func193,ntmps193;go_wp2_with fail;have F:Bk (w.alloc (.cells (Array.replicate b (.int .i64 0)) 3)) w.heap.size 3 (nY c b 0):=by rw [aEN];exact ke _ _ _
 have L:VB B w (w.alloc (.cells (Array.replicate b (.int .i64 0)) 3)):=vR.alloc _;go_loopw [19] (fun x wr=>∃a:Nat,a<=b/\x=.int .i64 (a:Int)/\Bk wr w.heap.size 3 (nY c b a)/\VB B w wr) (fun x _=>b -(intOf x).toNat)
 case atStart=>exact ⟨0,zAp _,rfl,F,L⟩
 case round=>
  obtain ⟨a,ac,rfl,E,t⟩:=hrel;clear F L a4 a1 A;have ae:=t.1.size;obtain ⟨y,l⟩:=hqq2 E t;clear E t;by_cases s:a < b
  · obtain ⟨j,K⟩:∃j,c[a]?=some j:=⟨_,zAa (by rw [d.out];exact s)⟩;have z:=lhd K;clear K;go_wp2_with fail;refine (eI B e c a j wr (a0.out.vis l.out.1) (by rw [d.out];exact s) (zAc.1 z.out).2 S.out X.out).mono ?_;rintro a7 R ⟨rfl,u⟩;have i:=u.1.bk y.out dC dC;have v:=l.out.trans u;have ab:=i.lt;have a9:=i.frozen a;have r:=i.set a (.int .i64 (j:Int));rw [aGN d.out z.out] at r;have a3:∃P,R.cell? ⟨w.heap.size,a,none⟩=some P:=⟨_,(i.cell a).trans (zAq (by rw [aEO c b a d.out oM];exact s))⟩;obtain ⟨P,af⟩:=a3;have M:VB B w (R.setCell ⟨w.heap.size,a,none⟩ (.int .i64 (j:Int))):=⟨Vis.fresh v.1 (p:=⟨w.heap.size,a,none⟩) nL _,ka v.2 (p:=⟨w.heap.size,a,none⟩) (.inr nL) _⟩;obtain ⟨V,Y⟩:=hqq2 r M;clear i r u v M;go_wp2_with fail;go_roundw
    case rel=>exact ⟨a+1,by omega,by go_num,V.out,Y.out⟩
    case measure=>simp [intOf];omega
  · obtain rfl:a=b:=oM;have m:=y.out;rw [aGO c a d.out] at m;obtain ⟨Q,g⟩:=l.out.1.waveC U.out;have A:wr.cell? ⟨e,10,none⟩=some (.int .i64 Q):=(g.cell 10).trans (bI q a Q).2.2.2.2.2.2.2.2.2.2;have a8:=g.frozen 10;have aa:=g.lt;have N:=l.out.trans (VB.set_wave g a2 k);have J:=Bk.ne m g dC;have G:=m.far (p:=⟨e,10,none⟩) J (.int .i64 k);have H:=aEE (B:=w.heap.size) (n:=a) G nL (by rw [zBc];exact d.out) (by unfold maxLen;omega);obtain ⟨W,Z⟩:=hqq2 H N;clear m g N G H J;go_wp2_with fail;go_ret;exact ⟨_,_,by rw [d.out];rfl,by rw [d.out];exact W.out,Z.out⟩
def aDi (B gk a w) (o:WalkAt w B gk a) (q:∀r∈a,r < 257) (f:a.length<=1000):
 Calls prog 133 #[gk] w (jN w B a):=by
 obtain ⟨n,u,c,d,p⟩:=o;have s:=c.cell 0;have b:=aDf B n a w d q f;unfold jN at b⊢;obtain ⟨v,g⟩:=eqx a.length;rw [g] at b⊢;clear c d p g f;go_enter func133,ntmps133;go_wp2_with fail;refine b.mono ?_;rintro t x ⟨j,m,rfl,e,i⟩;obtain ⟨k,l⟩:=hqq2 e i;clear b e i;go_wp2_with fail;go_ret;exact ⟨j,m,rfl,k.out,l.out⟩
def tD (c gl gk q o rate a l w) (d:LiveG w c gl gk q rate o a l) (r:∀s∈a,s < 257) (g:a.length<=1000):
 Calls prog 69 #[gl] w (jN w c a):=by
 obtain ⟨v,e⟩:=d.blk;have t:=e.cell 0;have b:=aDi c gk a w d.walk r g;clear e;unfold jN at b⊢;obtain ⟨x,i⟩:=eqx a.length;rw [i] at b⊢;clear d i g;go_enter func69,ntmps69;go_wp2_with fail;refine b.mono ?_;rintro u y ⟨k,p,rfl,f,j⟩;obtain ⟨m,n⟩:=hqq2 f j;clear b f j;go_wp2_with fail;go_ret;exact ⟨k,p,rfl,m.out,n.out⟩
def nE (c gl gk g i rate e d w) (a:LiveG w c gl gk g rate i e d):
 Calls prog 71 #[gl] w fun f w'=>f=.returned (.int .i64 (rate:Int))/\w=w':=by
 obtain ⟨k,b⟩:=a.blk;have j:=b.cell 2;clear a b;go_enter func71,ntmps71;go_wp2_with fail;go_ret;exact ⟨rfl,rfl⟩
def aKJ (a):a.map sv=(jS a).map iv:=by
 unfold jS;rw [zCh];rfl
def iQ (w:World) (d:Nat) (a:List UInt8) (e:Ending) (w':World):Prop:=
 ∃b c,e=.returned (.tuple #[.slice b a.length c,o0])/\Made w' w.heap.size 5 1 b a.length c (a.map bv)/\VB d w w'
def sV (k gl gk N rate most g b ag w) (y:LiveG w k gl gk N rate (g.length+1) (aH (aJ g) b) ag) (bM:∀j∈ag,b[j.1]?=some j.2) (s:IsSuf (aJ g) b) (bC:g.length<=127) (bK:1<=rate) (d0:rate<=64) (cr:g.length<=most) (cT:most<=2147483648):
 Calls prog 65 #[gl,(most:Int)] w (iQ w k (gI (aH (aJ g) b) b most rate g.length)):=by
 obtain ⟨c0,bq,bX,bY,bZ⟩:=info_parts lF;obtain ⟨e,ar⟩:=eqx (aH (aJ g) b);have F:=dR (rs:=b) (fB g);have R:e.length=g.length+1:=by rw [<-ar,bW,s.len,aR]
 have aK:∀d w1,VB k w w1->d*rate<=g.length->Calls prog 58 #[gl,.int .i64 ((d*rate:Nat):Int)] w1 fun f w'=>f=.returned (.int .i64 ((b.idxOf (d*rate):Nat):Int))/\VB k w1 w':=fun d w1 t bs=>by have ct:d*rate∈b:=s.mem (by rw [aR];omega);exact gG k gl gk N rate g b ag (b.idxOf (d*rate)) (d*rate) w1 (y.vis t.1) bM s bC (zAc.2 ⟨List.idxOf_lt_length_iff.2 ct,List.getElem_idxOf _⟩)
 rw [ar] at y F⊢;obtain ⟨c,bi⟩:=eqx g.length;have br:∀j,b.idxOf j<=128:=fun j=>by have:=List.idxOf_le_length (a:=j) (l:=b);rw [s.len,aR] at this;omega
 have a4:=tD k gl gk N (g.length+1) rate e _ w y F oM;unfold jN at a4;rw [bi] at R aK cr bC⊢;rw [R] at a4;have bt:=y.lvw;have bI:=aEL F;have bo:=qR e;rw [R] at bo;obtain ⟨Y,cc,ch,cI,ak,cg,c9⟩:=hqq7 y bt aK F R bI br;have cF:¬most < c:=oM;have da:decide (most < c)=false:=zBy cF;have cG:¬((most:Int) > 2147483648):=oM;have db:decide ((most:Int) > 2147483648)=false:=zBy cG;have d8:0 < w.heap.size:=Nat.lt_of_le_of_lt (zAp _) y.lt;clear bM y bt aK F R bI ar s bi br;unfold iQ;go_enter func65,ntmps65;go_wp2_with fail;refine (cD k gl _ c w cc.out ak.out oM).mono ?_;rintro f w1 ⟨rfl,rfl⟩;go_wp2_with fail;refine a4.mono ?_;clear a4;rintro f w1 ⟨c4,ci,rfl,bu,bR⟩;have aL:=aFf c4 (c+1) ci w1.heap.size (jS e) w1 (by rw [<-aKJ];exact bu.rd) nL oM;rw [cg.out] at aL;have an:=lhd bR;clear bu bR;go_wp2_with fail;refine aL.mono ?_;clear aL;rintro f v ⟨cy,bj⟩;obtain ⟨cJ,aP,bh,P,rfl,aA⟩:=cy.resolve_right (fun ⟨cv,_⟩=>by cases cv);injection P with P;obtain ⟨a9,Q⟩:=eqx ((gY e).length);rw [<-P,Q] at aA;rw [<-P,Q];rw [Q] at bo;have bS:VB k w v:=an.out.below bj;have K:=lhd bS;have b7:=lhd (aA.mono (B':=w.heap.size) an.out.1.size);have ca:=lhd Q;clear bj P aA Q bS an;go_wp2_with fail;go_loopw [8,9] (fun cH p wr=>∃d m:Nat,d<=c / rate+1/\p=.int .i64 ((d*rate:Nat):Int)/\wr.ownsRow v.heap.size 5 1 cH m ((aA2 b rate d).map bv)/\VB k v wr) (fun _ p _=>(c+65 -(intOf p).toNat))
 case atStart=>exact ⟨0,0,zAp _,by simp,kj _ _ _ _,VisK.refl _ _⟩
 case round=>
  obtain ⟨d,m,bs,rfl,G,t⟩:=hrel;have cY:m<=1500:=by have cm:=G.1;have cK:=rJ b rate d;have cM:c / rate<=c:=Nat.div_le_self _ _;simp at cm;omega
  obtain ⟨u,aF⟩:=eqx (d*rate);have U:=K.out.trans t;have a5:=cD k gl _ c wr (Y.out.vis U.1).lvw ak.out oM;have d5:=U.1.size;have d6:=t.1.size;by_cases F:u<=c
  · have a7:=ch.out d wr U oM;have aE:=tO b rate d;obtain ⟨j,aM⟩:=eqx (b.idxOf (d*rate));have d9:j<=128:=(by rw [<-aM];exact c9.out _);have cu:=aK5 bK (by omega:d*rate<=c);have cx:(d+1)*rate=u+rate:=(by rw [Nat.add_mul,aF,Nat.one_mul]);rw [aM] at a7 aE;rw [aF] at a7;rw [aF];obtain ⟨aa,az⟩:=eqx ((cC j).length);have cS:aa<=11:=(by rw [<-az];exact dJ j);have cX:u<=127:=oM;obtain ⟨ce,cb,r,J⟩:=hqq4 aE az t G;clear aE az t G U aM;go_wp2_with fail;refine a5.mono ?_;clear a5;rintro f H ⟨rfl,rfl⟩;go_wp2_with fail;refine a7.mono ?_;clear a7;rintro f H ⟨rfl,a8⟩;have bG:=a8.1.own J.out dC dC;have bd:=lhd bG;have bV:=r.out.trans a8;have d7:=a8.1.size;have bf:=lhd bV;clear bG a8 bV J r;go_wp2_with fail;refine (zA _ _ _ _ [j] _ (cC j) aa (qS j) cb.out (Rd.made _ _ 1 1 _ rfl) nL (by simp;omega) oM).mono ?_;rintro f i ⟨I,M,rfl,S,O⟩;have n:=((kh H.heap.size H).alloc nL (.cells #[.int .u64 (j:Int)] 149)).trans (O.mono (by simp));have z:i.ownsRow v.heap.size 5 1 u8 m ((aA2 b rate d).map bv):=aQ (bd.out) n;have bO:=n.size;obtain ⟨Z,am⟩:=hqq2 S.rd (iY (cC j));have bT:=bf.out.below n;have bP:v.heap.size<=i.heap.size:=oM;have L:=lhd bT;clear S O n bd bf bT;go_wp2_with (at_builtin;refine bF _ rfl (.tmp 41) (.tmp 47) _ rfl v.heap.size 5 c0 (.int .u8 0) 1 1 underlying22 bq bX bY bZ rfl dC u8 m _ rfl z i.heap.size I aa M _ rfl Z.out am.out (by unfold maxLen;omega) oM bP ?_;intro dd aO bH bp co);have o:=aZ (kh v.heap.size i) z bp bP;have bU:=VB.grow L.out o;obtain ⟨bg,cf⟩:=hqq2 bU bH;clear z bH bp co o bU L;have bL:=nE k gl gk N _ rate e _ aO (Y.out.vis (K.out.trans bg.out).1);go_wp2_with fail;refine bL.mono ?_;clear bL;rintro f c2 ⟨rfl,rfl⟩;have cP:IntKind.i64.wrap ((u:Int)+(rate:Int))=((u+rate:Nat):Int):=(by rw [wI0];omega);go_wp2_with fail;go_roundw
    case rel=>
        refine ⟨d+1,m+aa,cu,?_,?_,bg.out⟩
        · rw [cx]
          first | rfl | exact cO oM
        rw [ce.out,zAz];exact cf.out
    case measure=>simp [intOf];omega
  · go_wp2_with fail;refine a5.mono ?_;clear a5;rintro f H ⟨rfl,rfl⟩;have cq:=aLc bK bs oM;subst cq;rw [<-vW] at G;obtain ⟨J,r⟩:=hqq2 G t;clear G t U;go_wp2_with fail;refine (nE k gl gk N _ rate e _ wr (Y.out.vis (K.out.trans r.out).1)).mono ?_;rintro f H ⟨rfl,rfl⟩;go_wp2_with fail;refine (cD k gl _ c wr (Y.out.vis (K.out.trans r.out).1).lvw ak.out oM).mono ?_;rintro f H ⟨rfl,rfl⟩;go_wp2_with fail;obtain ⟨V,ay⟩:=eqx ((dU [most,rate,c]).length);have cR:V<=33:=(by rw [<-ay];have:=xY [most,rate,c];simpa using this);have b6:=lhd ay;clear ay;refine (zA _ _ _ _ [most,rate,c] _ (dU [most,rate,c]) V rfl b6.out (Rd.made _ _ 1 3 _ rfl) nL (by simp;omega) oM).mono ?_;rintro f i ⟨I,M,rfl,S,O⟩;have n:=((kh wr.heap.size wr).alloc nL (.cells #[.int .u64 (most:Int),.int .u64 (rate:Int),.int .u64 (c:Int)] 149)).trans (O.mono (by simp));have bO:=n.size;have z:i.ownsRow v.heap.size 5 1 u8 m ((wW b rate c).map bv):=aQ (J.out) n;have bE:i.ownsRow w.heap.size 5 1 (.slice aP a9 bh) a9 ((gY e).map bv):=aQ (r.out.1.own b7.out.own dC dC) n;obtain ⟨c7,cl,rfl,bx⟩:=aS z;obtain ⟨b8,be,Z,L⟩:=hqq4 bx.rd (Rd.of_own bE) S.rd ((K.out.trans r.out).below n);have bJ:(wW b rate c).length=m:=(by have:=z.1;simpa using this);clear S O n z bE bx J b7 r;have cE:=oL i;go_wp2_with fail;have a6:=aJ0 i 5 #[.int .u8 83,.int .u8 75,.int .u8 82,.int .u8 49] (4,5) 4 rfl;obtain ⟨C,a3⟩:=eqx i.heap.size;rw [a3] at a6;have o:Below i.heap.size i (i.alloc (.cells #[.int .u8 83,.int .u8 75,.int .u8 82,.int .u8 49] 5 (4,5))):=(kh i.heap.size i).alloc nL _;have cA:(i.alloc (.cells #[.int .u8 83,.int .u8 75,.int .u8 82,.int .u8 49] 5 (4,5))).heap.size=C+1:=(by simp [a3]);have a0:=be.out.below o;have a1:=b8.out.below o;have a2:=Z.out.below o;have au:=L.out.below o;rw [a3] at a0 a1 a2 o bO⊢;generalize i.alloc (.cells #[.int .u8 83,.int .u8 75,.int .u8 82,.int .u8 49] 5 (4,5))=aO at a6 o cA a0 a1 a2 au⊢;obtain ⟨ba,aT,aU,aW,b4⟩:=hqq5 a6 a0 a1 a2 au;clear a6 a0 a1 a2 au o be b8 Z L a3 cE;have cN:c / rate<=c:=Nat.div_le_self _ _;have cz:=rJ b rate (c / rate+1);rw [<-vW,bJ] at cz;have cZ:m<=2000:=oM;obtain ⟨ab,aB⟩:=eqx ((eF (gY e)).length);obtain ⟨ac,aC⟩:=eqx ((eF (wW b rate c)).length);have cU:ab<=3000:=(by rw [<-aB,kC,ca.out];have:=dJ a9;omega);have cV:ac<=3000:=(by rw [<-aC,kC,bJ];have:=dJ m;omega);have aG:=sW aP a9 bh C (gY e) aO aT.out oM oM;rw [aB] at aG;refine aG.mono ?_;clear aG;rintro f c2 ⟨ad,ao,rfl,bz,D⟩;have d1:=D.size;obtain ⟨bb,aV,aX,b0,b5⟩:=hqq5 (ba.out.below (D.mono oM)) (aU.out.below (D.mono oM)) (aW.out.below (D.mono oM)) bz.rd (b4.out.below D);clear D bz ba aT aU aW b4;go_wp2_with fail;have aI:=sW c7 m cl C (wW b rate c) c2 aV.out oM oM;rw [aC] at aI;refine aI.mono ?_;clear aI;rintro f q ⟨ae,ap,rfl,bA,E⟩;have d2:=E.size;obtain ⟨bc,aY,b1,b2,ah⟩:=hqq5 (bb.out.below (E.mono oM)) (aX.out.below (E.mono oM)) (b0.out.below E) bA.rd (b5.out.below E);clear E bA bb aV aX b0 b5;go_wp2_with fail;obtain ⟨x,ax⟩:=eqx (pU e b most rate c);obtain ⟨A,aD⟩:=eqx x.length;have cW:A<=10000:=by rw [<-aD,<-ax];unfold pU;rw [zAi,zAi,zAi,b6.out,aB,aC];have:iJ.length=4:=rfl;omega
    have bn:=nG (some ⟨q.heap.size,0,none⟩) 4 4 (q.heap.size+1) [⟨some ⟨C,0,none⟩,4,4,iJ⟩,⟨I,V,M,dU [most,rate,c]⟩,⟨ad,ab,ao,eF (gY e)⟩,⟨ae,ac,ap,eF (wW b rate c)⟩] x A (by rw [<-ax];unfold pU;simp [iN]) aD (q.alloc (.cells #[.slice (some C) 4 4,.slice I V M,.slice ad ab ao,.slice ae ac ap] 22)) ((Rd.made q _ 1 4 _ rfl).mono (by simp)) (by
        intro X s;simp at s;rcases s with rfl | rfl | rfl | rfl;exact ((bc.out.mono (B':=q.heap.size) oM).alloc nL _).mono oM;exact ((aY.out.mono (B':=q.heap.size) oM).alloc nL _).mono oM;exact ((b1.out.mono (B':=q.heap.size) oM).alloc nL _).mono oM
        · exact (b2.out.alloc nL _).mono oM) (by simp) oM oM
    refine bn.mono ?_;clear bn;rintro f c3 ⟨af,aq,rfl,bB,bl⟩;have bk:=((kh q.heap.size q).alloc nL (.cells #[.slice (some C) 4 4,.slice I V M,.slice ad ab ao,.slice ae ac ap] 22)).trans (bl.mono (by simp));have ai:=lhd (ah.out.below bk);have d3:=ai.out.1.size;have al:=lhd (bB.mono (B':=w.heap.size) (by simp;have:=ah.out.1.size;omega));clear bB bl bk ah bc aY b1 b2;go_wp2_with fail;refine (uJ af _ A aq _ x _ ((al.out.rd.alloc oM _).mono (by simp)) oM (Rd.made _ _ 1 1 _ rfl)).mono ?_;rintro f df ⟨rfl,bm⟩;have aw:=((kh c3.heap.size c3).alloc nL (.cells #[.slice af A aq] 22)).trans (bm.mono (by simp));obtain ⟨b9,aj⟩:=hqq2 (al.out.below aw) (ai.out.below aw);have d4:=aj.out.1.size;clear bm aw al ai;go_wp2_with fail;refine (aAS (oC x) _).mono ?_;rintro f c1 ⟨c5,cj,rfl,bw,av⟩;obtain ⟨cd,b3⟩:=hqq2 (b9.out.below av) (aj.out.below av);have bN:=b3.out.1.size;have c8:=lhd bw.rd;have bD:=cd.out.own;have am:=lhd (iY (sH (oC x)));clear bw av b9 aj;go_wp2_with (at_builtin;refine bF _ rfl (.tmp 68) (.tmp 72) _ rfl w.heap.size 5 c0 (.int .u8 0) 1 1 underlying22 bq bX bY bZ rfl dC (.slice af A aq) A _ rfl bD c1.heap.size c5 4 cj _ rfl c8.out am.out (by unfold maxLen;omega) oM bN ?_;intro dc de cw cp cQ);have cn:=VB.grow b3.out (aZ (kh w.heap.size c1) bD cp bN);obtain ⟨c6,ck,rfl,cs⟩:=aS cw;go_ret2;have bQ:gI e b most rate c=x++sH (oC x):=(by unfold gI;rw [ax]);have cB:(gI e b most rate c).length=A+4:=(by rw [bQ,zAi,aD,sF]);rw [cB,bQ,zAz];exact ⟨c6,ck,rfl,cs,cn⟩
@[irreducible] def zerC (W:Nat):Array Value:=kY .i64 W fun _=>0
@[irreducible] def filC (e:List Nat) (d:Nat):Array Value:=kY .i64 257 fun X=>if X < d then cL e X 0 else 0
@[irreducible] def firC (e:List Nat) (d:Nat):Array Value:=kY .i64 257 fun X=>cL e X d
@[irreducible] def toC (e:List Nat) (W d:Nat):Array Value:=kY .i64 W fun p=>if p < d then cL e (e.getD p 0) p else 0
@[irreducible] def seenC (b:List Nat) (W aN:Nat):Array Value:=kY .i64 W fun p=>if aN < b.getD p 0 then 1 else 0
@[irreducible] def txtC (g:List UInt8) (aN:Nat):Array Value:=kY .u8 g.length fun u=>if u < aN then 0 else (g.getD u 0).toNat
def aFy (a):Array.replicate a (Value.int .i64 0)=zerC a:=by unfold zerC;exact pK _ _
def aGQ (a):Array.replicate 257 (Value.int .i64 0)=filC a 0:=by
 unfold filC;rw [pK];exact dH fun c b=>by rw [zBw oM]
def aI1 {L a} (e:a < 257):(filC L a).setIfInBounds a (.int .i64 ((L.countP (fun f=>decide (f < a)):Nat):Int))=filC L (a+1):=by
 unfold filC;rw [mD e];refine dH fun d g=>?_;by_cases b:d=a
 · subst b;rw [zBx rfl,zBx oM];unfold cL;simp
 · rw [zBw b];by_cases c:d < a
   · rw [zBx c,zBx oM]
   · rw [zBw c,zBw oM]
def aI3 (a):filC a 257=firC a 0:=by
 unfold filC firC;exact dH fun c b=>by rw [zBx b]
def aI2 {L k a} (b:a < 257):∃c,(filC L k)[a]?=some c:=by
 unfold filC;exact ⟨_,gP b⟩
def aI0 {b c a} (d:a < 257):(firC b c)[a]?=some (.int .i64 ((cL b a c:Nat):Int)):=by
 unfold firC;exact gP d
def aIZ {b c a} (f:b[c]?=some a) (e:a < 257):(firC b c).setIfInBounds a (.int .i64 ((cL b a c+1:Nat):Int))=firC b (c+1):=by
 unfold firC;rw [mD e];refine dH fun g i=>?_;rw [aGC f];by_cases d:g=a
 · subst d;simp
 · rw [zBw d,zBw d]
def aHO (b a):zerC a=toC b a 0:=by
 unfold zerC toC;exact dH fun d c=>by rw [zBw oM]
def aFA {b d c a} (e:a < d):(toC b d c)[a]?=some (.int .i64 (((if a < c then cL b (b.getD a 0) a else 0:Nat)):Int)):=by
 unfold toC;exact gP e
def aJJ {b c a g} (j:b[a]?=some g) (i:a < c):(toC b c a).setIfInBounds a (.int .i64 ((cL b g a:Nat):Int))=toC b c (a+1):=by
 unfold toC;rw [mD i];refine dH fun f k=>?_;by_cases d:f=a;subst d;rw [zBx rfl,zBx oM,zAb,j];rfl
 · rw [zBw d];by_cases e:f < a
   · rw [zBx e,zBx oM]
   · rw [zBw e,zBw oM]
def aEi {b d c} (f:∀a∈b,a<=c):zerC d=seenC b d c:=by
 unfold zerC seenC;refine dH fun g i=>?_;rw [zBw];rw [zAb];cases e:b[g]? with
 | none=>simp
 | some a=>simpa using f a (zAd e)
def aGn {d c b a} (e:a < c) (f:d[a]?=some b):(seenC d c b)[a]?=some (.int .i64 0):=by
 unfold seenC;rw [gP e,zAb,f];simp
def aGm {a n b c o} (m:IsSuf o a) (q:a.length=n) (l:c < n) (g:a[c]?=some (b+1)):(seenC a n (b+1)).setIfInBounds c (.int .i64 ((1:Nat):Int))=seenC a n b:=by
 unfold seenC;rw [mD l];refine dH fun j p=>?_;by_cases e:j=c
 · subst e;rw [zBx rfl,zAb,g,zBx (by simp)]
 · rw [zBw e];obtain ⟨d,i⟩:∃d,a[j]?=some d:=⟨_,zAa oM⟩;have r:d≠b+1:=fun k=>e (vX m (by rw [i,k]) g);rw [zAb,i];simp only [Option.getD_some];by_cases f:b+1 < d
   · rw [zBx f,zBx oM]
   · rw [zBw f,zBw oM]
def aF3 (a):Array.replicate a.length (Value.int .u8 0)=txtC a a.length:=by
 unfold txtC;rw [pK];exact dH fun c b=>by rw [zBx b]
def aHL {b a c} (f:b[a]?=some c):(txtC b (a+1)).setIfInBounds a (bv c)=txtC b a:=by
 have i:=(zAc.1 f).1;unfold txtC bv;rw [mD i];refine dH fun g j=>?_;by_cases d:g=a;subst d;rw [zBx rfl,zBw oM,zAb,f];rfl
 · rw [zBw d];by_cases e:g < a
   · rw [zBx e,zBx oM]
   · rw [zBw e,zBw oM]
def aHM {t j a} (b:a < t.length):∃c,(txtC t j)[a]?=some c:=by
 unfold txtC;exact ⟨_,gP b⟩
def aHN (b):(txtC b 0).toList=b.map bv:=by
 unfold txtC;rw [aG1];apply List.ext_getElem?;intro c;rw [zAf,zAf];by_cases a:c < b.length
 · rw [zCk a,zAa a];simp [bv,a]
 rw [zBg (by simpa using a),zBg (by simpa using a)];rfl
def aF4 (a b):(txtC a b).size=a.length:=by unfold txtC;exact mC _ _ _
def aGr (a:Nat) (i:a<=1000000) (w):(Instr.makeSlice 22 (.int .i64 (a:Int)) (.int .i64 (a:Int))).run prog w=.ok (.slice (some w.heap.size) a a) (w.alloc (.cells (Array.replicate a (.int .u8 0)) 5)):=by
 obtain ⟨g,c,d,e,f⟩:=info_parts vU;have:=run_make (P:=prog) w 22 5 g (.int .u8 0) underlying22 c d .i64 .i64 a a oM (Int.le_refl _) (by rw [f];omega) oM;rw [this,e];have b:madeCells #[.int .u8 0] a=Array.replicate a (.int .u8 0):=by apply Array.ext';rw [toList_madeCells_one];simp
 simp only [Value.cells,zBr,zBl];rw [b]
def yY (aE S B i N w) (ag:IsSuf (aJ i) N) (a6:Rd w B 1 aE (i.length+1) ((aH (aJ i) N).map sv)) (aQ:B<=w.heap.size) (co:i.length<=127):
 Calls prog 132 #[.slice aE (i.length+1) S] w fun q w'=>∃bk bp,q=.returned (.tuple #[.slice bk i.length bp,true])/\Made w' w.heap.size 5 1 bk i.length bp (i.map bv)/\Below w.heap.size w w':=by
 obtain ⟨d,aw⟩:=eqx (aH (aJ i) N);have z:=dR (rs:=N) (fB i);have aV:=aEW ag;have b3:d.length=i.length+1:=by rw [<-aw,bW,ag.len,aR]
 rw [aw] at a6 z aV;obtain ⟨x,ac⟩:=eqx i.length;obtain ⟨b,b6⟩:=eqx (x+1);rw [ac,b6] at a6 b3;rw [ac] at co;have bL:=sQ aE b S B d w a6 aQ oM z;obtain ⟨R,Y,rfl,ce,bC⟩:=a6.2 oM;have bD:∀wr,Below w.heap.size w wr->∀(a l:Nat),d[a]?=some l->wr.cell? ⟨R,Y+a,none⟩=some (.int .i64 (l:Int)):=fun wr g a l I=>(g.cell (p:=⟨R,Y+a,none⟩) (zAl ce aQ)).trans (bC a _ (by rw [zAf,I];rfl));obtain ⟨c5,aL,c2,an,aj,a1,bZ⟩:=hqq7 a6 bD z b3 aw ac aV;rw [ac,b6];clear a6 bC bD z b3 aw ac aV;go_enter func132,ntmps132;go_wp2_with fail;refine bL.mono ?_;clear bL;rintro q w1 ⟨a3,rfl,cR,bz,bt⟩;obtain ⟨am,aF⟩:=hqq2 bz bt;clear bz bt;go_wp2_with fail;have b8:=vA a3 d 0 w1 am.out oM;rw [bZ.out] at b8;refine b8.mono ?_;clear b8;rintro q a2 ⟨rfl,aT⟩;obtain ⟨aI,ak⟩:=hqq2 (am.out.below aT am.out.lt) (aF.out.trans (aT.mono aF.out.size));clear aT am aF;go_wp2_with fail;have cX:b<=128:=oM;refine wp_region_any kR ?_;refine wQ [29,30,31,32,33,34,6,7] [31,34] 8 (Grow) (Below a2.heap.size a2) [k0 (is (.slice (some ⟨R,Y,none⟩) b S)),k0 (is (b:Int)),k0 (fun Z a0=>∃f,Z=.slice (some ⟨f,0,none⟩) b b/\a2.heap.size<=f/\Bk a0 f 3 (zerC b)),k0 (is (.slice (some ⟨R,Y,none⟩) b S)),k0 (is (b:Int)),k0 (fun Z a0=>∃f,Z=.slice (some ⟨f,0,none⟩) b b/\a2.heap.size<=f/\Bk a0 f 3 (zerC b)),kEq 31,kEq 34] _ _ rfl kR kR (bR.drew) (yE rfl) (fun w w' au a=>a.elim (fun a=>au.trans (a.mono au.size)) (fun a=>au.trans (a.mono au.size))) (by repeat' (first | exact aEU _ | exact aFS _ |(refine zAe.2 ⟨?_,?_⟩)|(intro c D;cases D))) (by repeat' (first | exact vV _ _ | exact rH _ _ | exact jU (fun _ _ _ ⟨f,aO,aP,ab⟩ a=>⟨f,aO,aP,ab.below a ab.lt⟩)|(refine zAe.2 ⟨?_,?_⟩)|(intro c D;cases D))) (by simp only [List.eraseIdx_cons_zero,List.eraseIdx_cons_succ,List.eraseIdx_nil];repeat' (first | exact vV _ _ | exact rH _ _ | exact jU (fun _ _ _ ⟨f,aO,aP,ab⟩ a=>⟨f,aO,aP,ab.below a ab.lt⟩)|(refine zAe.2 ⟨?_,?_⟩)|(intro c D;cases D))) ?_ ?_
 · refine aK ?_;refine aB (cY rfl rfl fun y _ _ _ _ _ m _ _ _ _ r=>?_) ?_
   · have cc:y (.tmp 0)=.slice (some ⟨R,Y,none⟩) b S:=m 0 kR;clear m;go_simp;exact r _ _ (dQ bR rfl rfl) rfl
   refine aB (cY rfl rfl fun _ _ _ _ _ _ m E _ _ _ r=>?_) ?_
   · have cE:_=_:=E 0 29 kR rfl;clear m;go_simp;exact r _ _ (dQ bR rfl rfl) rfl
   refine aB (cY rfl rfl fun _ _ aS _ _ _ m E _ _ _ r=>?_) ?_
   · obtain ⟨U,av⟩:=aS;have cF:_=_:=E 1 30 kR rfl;clear m;have bh:=nR b oM;go_simp;exact r _ _ (kG (bR.alloc nL _) rfl (fun f ae=>by simp [blk?] at ae;subst ae;simp)) ⟨_,rfl,U.size,by rw [<-aFy];exact ke _ _ _⟩
   refine aB (cY rfl rfl fun y _ _ _ _ _ m _ _ _ _ r=>?_) ?_
   · have cc:y (.tmp 0)=.slice (some ⟨R,Y,none⟩) b S:=m 0 kR;clear m;go_simp;exact r _ _ (dQ bR rfl rfl) rfl
   refine aB (cY rfl rfl fun _ _ _ _ _ _ m E _ _ _ r=>?_) ?_
   · have cG:_=_:=E 3 32 kR rfl;clear m;go_simp;exact r _ _ (dQ bR rfl rfl) rfl
   refine aB (cY rfl rfl fun _ _ aS _ _ _ m E _ _ _ r=>?_) ?_
   · obtain ⟨U,av⟩:=aS;have cH:_=_:=E 4 33 kR rfl;clear m;have bh:=nR b oM;go_simp;exact r _ _ (kG (bR.alloc nL _) rfl (fun f ae=>by simp [blk?] at ae;subst ae;simp)) ⟨_,rfl,U.size,by rw [<-aFy];exact ke _ _ _⟩
   refine aB (cY rfl rfl fun _ _ _ _ _ _ m _ _ _ _ r=>?_) ?_
   · clear m;go_simp;exact r _ _ (dQ bR rfl rfl) rfl
   refine aB (cY rfl rfl fun _ _ _ _ _ _ m _ _ _ _ r=>?_) ?_
   · clear m;go_simp;exact r _ _ (dQ bR rfl rfl) rfl
   exact aC
 · intro y ai U av E cd;have br:y (.tmp 6)=y (.tmp 31):=E 6 6 rfl;have bs:y (.tmp 7)=y (.tmp 34):=E 7 7 rfl;have cr:(fun Z a0=>∃f,Z=.slice (some ⟨f,0,none⟩) b b/\a2.heap.size<=f/\Bk a0 f 3 (zerC b)) (y (.tmp 31)) ai:=E 2 31 rfl;have cs:(fun Z a0=>∃f,Z=.slice (some ⟨f,0,none⟩) b b/\a2.heap.size<=f/\Bk a0 f 3 (zerC b)) (y (.tmp 34)) ai:=E 5 34 rfl;simp only [zqq];clear E cd;obtain ⟨gs,bb,bc,bS⟩:=cr;obtain ⟨o,O,af,bM⟩:=cs;have bE:gs≠o:=fun q=>av.2 31 (by simp) 34 (by simp) dC gs (by rw [bb];rfl) (by rw [O,q];rfl);have bu:=ak.out.trans (U.mono ak.out.size);have bA:=aI.out.below U aI.out.lt;have cO:=ak.out.size;rw [br,bs,bb,O];generalize y (.tmp 29)=u29;generalize y (.tmp 30)=u30;generalize y (.tmp 32)=u32;generalize y (.tmp 33)=u33;obtain ⟨ap,ao,aG,a9⟩:=hqq4 bS bM bu bA;clear bS bM bu bA av br bs bb O U;go_wp2_with fail;obtain ⟨C,a4⟩:=eqx ai.heap.size;have aX:Bk (ai.alloc (.cells Tryz.zeroCells194 194)) C 194 (filC d 0):=(by rw [<-a4,<-aGQ];exact ke _ _ _);have P:=ap.out.alloc (.cells Tryz.zeroCells194 194);have W:=ao.out.alloc (.cells Tryz.zeroCells194 194);have bf:=a9.out.alloc (.cells Tryz.zeroCells194 194);have V:=aG.out.alloc aG.out.size (.cells Tryz.zeroCells194 194);have ch:gs < C:=(by rw [<-a4];exact ap.out.lt);have cP:o < C:=(by rw [<-a4];exact ao.out.lt);have cQ:a3 < C:=(by rw [<-a4];exact a9.out.lt);have cT:a3≠gs:=Bk.ne a9.out ap.out dC;have cS:a3≠o:=Bk.ne a9.out ao.out dC;rw [a4];generalize ai.alloc (.cells Tryz.zeroCells194 194)=W1 at aX P W bf V⊢;clear ap ao aG a9 aI ak a4;go_loopw [35] (fun J wr=>∃a:Nat,a<=257/\J=.int .i64 (a:Int)/\Bk wr C 194 (filC d a)/\Bk wr gs 3 (zerC b)/\Bk wr o 3 (zerC b)/\Bk wr a3 196 (tcells d)/\Below w.heap.size w wr) (fun J _=>257 -(intOf J).toNat)
   case atStart=>exact ⟨0,by omega,rfl,aX,P,W,bf,V⟩
   case round=>
    clear aX P W bf V;obtain ⟨a,aY,rfl,H,F,s,az,g⟩:=hrel;by_cases z:a < 257
    · have cW:((a:Int) < 257):=oM;have aU:=kV a3 d a wr az z (by rw [an.out];omega);obtain ⟨e,X⟩:∃e,d.countP (fun l=>decide (l < a))=e:=⟨_,rfl⟩;have bd:=aI1 (L:=d) z;rw [X] at aU bd;obtain ⟨Q,v,u,bn,c6⟩:=hqq5 H F s az bd;clear H F s az bd X;go_wp2_with fail;refine aU.mono ?_;clear aU;rintro q d1 ⟨rfl,ad⟩;have ax:=Q.out.below ad Q.out.lt;obtain ⟨cu,ah⟩:=aI2 (L:=d) (k:=a) z;have cy:=(ax.cell a).trans ah;have cK:=ax.frozen a;have c0:=lhd ax;clear ax ah;go_wp2_with fail;go_roundw
      case rel=>exact ⟨a+1,by omega,by go_num,by rw [<-c6.out];exact c0.out.set a _,(v.out.below ad v.out.lt).far (by simp;omega) _,(u.out.below ad u.out.lt).far (by simp;omega) _,(bn.out.below ad bn.out.lt).far (by simp;omega) _,(g.trans (ad.mono g.size)).setCell (by simp;omega) _⟩
      case measure=>simp [intOf];omega
    · have aZ:a=257:=oM;subst aZ;rw [aI3] at H;have bq:((257:Nat):Int)=257:=rfl;rw [bq];clear bq;obtain ⟨Q,v,u,A⟩:=hqq4 H F s g;clear H F s az g z aY;go_wp2_with fail;have ci:w.heap.size<=o:=oM;have ck:w.heap.size<=gs:=oM;have cg:w.heap.size<=C:=oM;have bJ:C≠o:=oM;have bK:o≠C:=oM;go_loopw [46] (fun J wr=>∃a:Nat,a<=b/\J=.int .i64 (a:Int)/\Bk wr C 194 (firC d a)/\Bk wr gs 3 (zerC b)/\Bk wr o 3 (toC d b a)/\Below w.heap.size w wr) (fun J _=>b -(intOf J).toNat)
      case atStart=>exact ⟨0,by omega,rfl,Q.out,v.out,by rw [<-aHO];exact u.out,A.out⟩
      case round=>
         clear Q v u A;obtain ⟨a,aY,rfl,H,F,s,g⟩:=hrel;by_cases z:a < b
         · obtain ⟨l,I⟩:∃l,d[a]?=some l:=⟨_,zAa (by rw [an.out];exact z)⟩;have bU:=c2.out l (zAd I);have aq:=aL.out wr g a l I;obtain ⟨e,X⟩:=eqx (cL d l a);have cZ:e<=1000:=(by have:=wI d l a;rw [X,an.out] at this;omega);have cw:wr.cell? ⟨C,l,none⟩=some (.int .i64 (e:Int)):=(by rw [<-X];exact (H.cell l).trans (aI0 bU));have cI:=H.frozen l;have cx:wr.cell? ⟨o,a,none⟩=some (.int .i64 (((if a < a then cL d (d.getD a 0) a else 0:Nat)):Int)):=(s.cell a).trans (aFA z);have cJ:=s.frozen a;have a7:=aJJ I z;have a8:=aIZ I bU;rw [X] at a7 a8;have cN:IntKind.i64.wrap ((e:Int)+1)=((e+1:Nat):Int):=(by rw [wI0];omega);obtain ⟨Q,v,u,aM,aN⟩:=hqq5 H F s a7 a8;clear H F s a7 a8 X;go_wp2_with fail;go_roundw
           case rel=>exact ⟨a+1,by omega,by go_num,by rw [<-aN.out];exact (Q.out.far (p:=⟨o,a,none⟩) bJ _).set l _,(v.out.far (p:=⟨o,a,none⟩) bE _).far (p:=⟨C,l,none⟩) (Nat.ne_of_lt ch) _,by rw [<-aM.out];exact (u.out.set a _).far (p:=⟨C,l,none⟩) bK _,(g.setCell (p:=⟨o,a,none⟩) ci _).setCell (p:=⟨C,l,none⟩) cg _⟩
           case measure=>simp [intOf];omega
         · have aZ:b=a:=oM;subst aZ;obtain ⟨v,u,A⟩:=hqq3 F s g;have cf:=g.size;clear H F s g z aY bJ bK;have cM:((b:Int) - 1)=(x:Int):=oM;have bh:=aGr x oM;go_wp2_with fail;obtain ⟨G,a5⟩:=eqx wr.heap.size;have bg:Bk (wr.alloc (.cells (Array.replicate x (.int .u8 0)) 5)) G 5 (txtC i x):=(by rw [<-a5,<-a1.out,<-aF3];exact ke _ _ _);have P:=v.out.alloc (.cells (Array.replicate x (.int .u8 0)) 5);have W:=u.out.alloc (.cells (Array.replicate x (.int .u8 0)) 5);have V:=A.out.alloc A.out.size (.cells (Array.replicate x (.int .u8 0)) 5);have bI:gs≠G:=Nat.ne_of_lt (by rw [<-a5];exact v.out.lt);have bH:o≠G:=Nat.ne_of_lt (by rw [<-a5];exact u.out.lt);have bG:w.heap.size<=G:=(by rw [<-a5];exact A.out.size);rw [a5];generalize wr.alloc (.cells (Array.replicate x (.int .u8 0)) 5)=W2 at bg P W V⊢;clear v u A a5 bh cf;have bQ:N.length=b:=(by have:=congrArg List.length aj.out;rw [bW,an.out] at this;exact this);have b2:∀c∈N,c<=x:=fun c D=>by have:=ag.lt D;rw [aR,a1.out] at this;omega
           rw [aEi b2] at P;have ba:=aCz ag;rw [a1.out] at ba;obtain ⟨bm,cv,aa⟩:=hqq3 bQ b2 ag;clear bQ b2;go_loopw [13,14] (fun ct J wr=>∃M c:Nat,M<=x/\N[c]?=some M/\ct=.int .i64 (c:Int)/\J=.int .i64 ((M:Int) - 1)/\Bk wr gs 3 (seenC N b M)/\Bk wr o 3 (toC d b b)/\Bk wr G 5 (txtC i M)/\Below w.heap.size w wr) (fun _ J _=>(intOf J+1).toNat)
           case atStart=>exact ⟨x,0,by omega,ba,rfl,by first | rfl | go_num,P,W,bg,V⟩
           case round=>
            clear P W bg V ba;obtain ⟨M,c,cV,D,rfl,rfl,F,s,I,g⟩:=hrel;have ay:c < b:=(by rw [<-bm.out];exact (zAc.1 D).1);by_cases cm:M=0
            · subst cm;have b0:=aGF aa.out D;rw [aj.out] at b0;have aq:=aL.out wr g c 0 b0;have cn:(((0:Nat):Int) - 1)=-1:=rfl;rw [cn];have b5:=aFM (B:=w.heap.size) I bG ((aF4 i 0).trans a1.out) (by unfold maxLen;omega);rw [aHN] at b5;obtain ⟨bl,A⟩:=hqq2 b5 g;clear F s I g b5 b0;have b1:=oG (some ⟨G,0,none⟩) x x wr.heap.size i wr bl.out.rd nL oM;rw [b6] at b1;go_wp2_with fail;refine b1.mono ?_;clear b1;rintro q bj ⟨d0,bX,cb,bc,rfl,b4,K⟩;have cq:=bc.unique aa.out;subst cq;rw [aj.out] at b4;have bT:=yX bX (some ⟨R,Y,none⟩) b cb S bj.heap.size d bj b4.rd (((c5.out.below (A.out.mono aQ)).below (K.mono (by have:=A.out.size;omega))).mono (by have:=A.out.size;have:=K.size;omega)) nL oM;have al:=lhd K;clear K b4 bc aq;go_wp2_with fail;refine bT.mono ?_;clear bT;rintro q d2 ⟨rfl,bx⟩;have bY:=lhd bx;clear bx;go_wp2_with fail;go_ret2;have bw:=al.out.trans (bY.out.mono al.out.size);exact ⟨_,_,rfl,bl.out.below bw,A.out.trans (bw.mono A.out.size)⟩
            · obtain ⟨e,rfl⟩:∃e,M=e+1:=⟨M - 1,by omega⟩;have cp:(((e+1:Nat):Int) - 1)=(e:Int):=oM;rw [cp];have bP:e < i.length:=(by rw [a1.out];omega);obtain ⟨ar,aW⟩:∃ar,i[e]?=some ar:=⟨_,zAa bP⟩;obtain ⟨bi,bO,bN⟩:=aa.out.row (p:=e) (by rw [aR,a1.out];omega);have b9:N[bi]?=some e:=(by rw [zAa bO,bN]);obtain ⟨O,af⟩:=aIE aa.out D b9 aW;rw [aj.out] at O af;have aq:=aL.out wr g c _ O;obtain ⟨bV,be⟩:=eqx (ar.toNat+1);have bB:=vC ar bV be.symm wr;rw [be] at O af aq;have a7:=aGm (n:=b) aa.out bm.out ay D;have a8:=aHL aW;have bF:(toC d b b)[c]?=some (.int .i64 (bi:Int)):=(by rw [aFA ay,zBx ay,zAb,O];show some (Value.int .i64 ((cL d bV c:Nat):Int))=_;rw [af]);obtain ⟨cu,ah⟩:=aHM (t:=i) (j:=e+1) bP;obtain ⟨c4,aM,aN,c1,v,u,bo,c8,c7⟩:=hqq9 b9 a7 a8 bF F s I ah (aGn ay D);clear b9 bN bO O af be a7 a8 bF F s I ah aW;go_wp2_with fail;refine bB.mono ?_;clear bB;rintro q bj ⟨rfl,K⟩;have aD:=v.out.below K v.out.lt;have b7:=u.out.below K u.out.lt;have aA:=bo.out.below K bo.out.lt;have cz:=(aD.cell c).trans c7.out;have cA:=aD.frozen c;have cB:=(b7.cell c).trans c1.out;have cC:=(aA.cell e).trans c8.out;have cD:=aA.frozen e;have cj:o≠gs:=fun q=>bE q.symm;have cl:G≠gs:=fun q=>bI q.symm;have cU:G≠o:=fun q=>bH q.symm;obtain ⟨ca,c3,c9,al⟩:=hqq4 aD b7 aA (g.trans (K.mono g.size));clear aD b7 aA K g;unfold bv;go_wp2_with fail;go_roundw
              case rel=>
               refine ⟨e,bi,by omega,c4.out,rfl,?_,?_,?_,?_,?_⟩
               · first | rfl | go_num
               rw [<-aM.out];exact (ca.out.set c _).far (p:=⟨G,e,none⟩) bI _;exact (c3.out.far (p:=⟨gs,c,none⟩) cj _).far (p:=⟨G,e,none⟩) bH _;rw [<-aN.out];exact (c9.out.far (p:=⟨gs,c,none⟩) cl _).set e _;exact (al.out.setCell (p:=⟨gs,c,none⟩) ck _).setCell (p:=⟨G,e,none⟩) bG _
              case measure=>simp [intOf]
def sB (most rate a:Nat):Array Value:=#[.int .i64 (most:Int),.int .i64 (rate:Int),.int .i64 (a:Int)]
def aCG {P:Program} {fn:Func} {a p b:Tmp} {ty:TypeId} (j:fn.results=#[.tmp a,.cell p ty,.tmp b]) (c:Array Value) (w:World) (e:Nat) (i:TypeId) (d:Array Value) (g:Nat×Nat) (f:TypeDesc)
 (n:c.getD p undef=.pointer (some e)) (l:w.heap[e]?=some (.cells d i g))
 (q:P.underlying ty=some f) (k:(match f with | .struct _ | .array _ _=>true | _=>false)=true) (m:(P.info? ty).map (·.size)=some d.size):
 (results fn c).run P w=.ok (.tuple #[c.getD a undef,.agg d,c.getD b undef]) w:=by
 have o:c[p]?.getD undef=.pointer (some e):=by simpa using n
 simp [results,j,o,asAddr,run_loadVar_row w e i ty d g f l q k m]
def zF (w:World) (a:List UInt8) (rate most:Nat) (b:Ending) (w':World):Prop:=
 ∃gl,b=.returned (.tuple #[.pointer (some ⟨gl,0,none⟩),.agg (sB most rate a.length),o0])/\(∃own,LiveE w' w.heap.size own gl a rate)/\VB w.heap.size w w'
def aKs {w b d e f g} (c:Bk w b d f) (a:Bk w b e g):d=e:=by
 unfold Bk at c a;rw [c] at a;injection a with a;injection a with _ ht
def aIS {w w' c e gl rate most d i} (n:c.getD 3 undef=.pointer (some e)) (k:c.getD 2 undef=.pointer (some ⟨gl,0,none⟩)) (l:c.getD 4 undef=.int .i64 0) (m:Bk w' e 107 (sB most rate d)) (o:∃own,LiveE w' w.heap.size own gl i rate) (q:VB w.heap.size w w'):
 bodyPost prog f66 (fun j w'=>∃gl,j=.returned (.tuple #[.pointer (some ⟨gl,0,none⟩),.agg (sB most rate d),o0])/\(∃own,LiveE w' w.heap.size own gl i rate)/\VB w.heap.size w w') .ret ⟨c, []⟩ w':=by
 have g:=aCG (P:=prog) (fn:=f66) (a:=2) (p:=3) (b:=4) (ty:=107) rfl c w' e 107 (sB most rate d) (0,0) _ n m underlying107 rfl kR;rw [k,l] at g;exact bodyPost_ret g rfl ⟨gl,rfl,o,q⟩
def aBH (e a t most rate f i w) (H:IsSuf (aJ f) i) (cj:f.length<=127) (cn:1<=rate) (co:rate<=64) (d6:f.length<=most) (d7:most<=2147483648) (G:Rd w t 1 e (gI (aH (aJ f) i) i most rate f.length).length ((gI (aH (aJ f) i) i most rate f.length).map bv)) (K:t<=w.heap.size) (aZ:(gI (aH (aJ f) i) i most rate f.length).length<=a) (O:a<=maxLen):
 Calls prog 66 #[.slice e (gI (aH (aJ f) i) i most rate f.length).length a] w (zF w f rate most):=by
 obtain ⟨l,M⟩:=eqx (aH (aJ f) i);rw [M] at G aZ⊢;have bc:=dR (rs:=i) (fB f);have bb:l.length=f.length+1:=by rw [<-M,bW,H.len,aR]
 rw [M] at bc;obtain ⟨b,aU⟩:=eqx f.length;unfold zF;rw [aU] at G aZ bb d6 cj⊢;obtain ⟨m,ac⟩:=eqx (pU l i most rate b);obtain ⟨cx,cy,cz,cA,d,q,F⟩:=SnAt.of l i most rate b;rw [ac] at q F;have Q:gI l i most rate b=m++sH (oC m):=by unfold gI;rw [ac]
 have bq:(gI l i most rate b).length=d+4:=by rw [Q,zAi,F,sF]
 rw [bq] at G aZ⊢;have dL:4<=d:=by have:=q.h1;have:=q.h2;have:=q.h3;have:=q.h4;have:=q.h5;omega
 have dD:¬(d+4 < 8):=oM;have dM:d<=10000:=by have a5:=q.h1;have aP:=q.h2;have a6:=q.h3;have cZ:=q.h4;have d0:=q.h5;have cV:=dJ most;have du:=dJ rate;have dv:=dJ b;have dw:=dJ (gY l).length;have dx:=dJ (wW i rate b).length;have dy:=qR l;have cW:=rJ i rate (b / rate+1);have dz:b / rate<=b:=Nat.div_le_self _ _;rw [<-vW] at cW;rw [kC] at cZ d0;omega
 have bn:=(G.cut_hi0 (k:=d) (cap:=a) oM);have c6:=aFW m;have cw:((gI l i most rate b).map bv).take (d*1)=m.map bv:=by rw [<-List.map_take,Q,zBl,List.take_left' F]
 rw [cw] at bn;have ai:=aKa m [] (oC m) c6;rw [List.append_nil,<-Q,F] at ai;have b0:∀(e W:Option Addr) (S a aN:Nat) (w:World),Rd w w.heap.size 1 e S (m.map bv)->S<=1099511627776->Rd w w.heap.size 1 W 1 [.slice e S a]->Calls prog 127 #[.slice W 1 aN] w fun j w'=>j=.returned (.int .u32 ((oC m:Nat):Int))/\Below w.heap.size w w':=fun e W S a aN w a5 aP a6=>uJ e W S a aN m w a5 aP a6;obtain ⟨dp,cr⟩:=eqx (oC m);rw [cr] at ai b0;have bB:=lhd b0;clear b0;obtain ⟨bP,bY,C,cM,a2,Z,u,bZ,ds⟩:=hqq9 G bn q bc bb M aU H Q;obtain ⟨dq,cO,cN,cP⟩:=hqq4 ac F ai bq;clear G bn q bc bb M aU H Q ac F cw ai bq c6 cr;have dS:=mN (P:=prog) 22 5 1 underlying22 (fun w=>by kernel_rfl) e (d+4) a d oM;have cV:IntKind.i64.wrap (((d+4:Nat):Int) - 4)=(d:Int):=by rw [wI0];omega
 go_enter func66,ntmps66;go_wp2_with fail;obtain ⟨c,ae⟩:=eqx w.heap.size;have b5:Bk (w.alloc (.cells #[o0,o0,o0] 107)) c 107 #[o0,o0,o0]:=ae ▸ ke _ _ _;have ad:Below w.heap.size w (w.alloc (.cells #[o0,o0,o0] 107)):=bR.alloc nL _;have bp:(w.alloc (.cells #[o0,o0,o0] 107)).heap.size=c+1:=by simp [ae]
 rw [ae] at ad K⊢;generalize w.alloc (.cells #[o0,o0,o0] 107)=W0 at b5 ad bp⊢;obtain ⟨aG,a0⟩:=hqq2 b5 ad;clear b5 ad;refine (aLO e (d+4) a (gI l i most rate b) (d:Int) t W0 dp 0 cN.out (bP.out.below (a0.out.mono K)) (by unfold maxLen;omega)).mono ?_;rintro j w1 ⟨rfl,rfl⟩;go_wp2_with fail;have c3:=bY.out.below (a0.out.mono K);refine (bB.out (dY e a 0 1) _ d a _ _ (((c3.mono (by omega:t<=W0.heap.size)).alloc nL _).mono (by simp)) oM (Rd.made' _ _ 1 1 _ _ rfl bp.symm)).mono ?_;rintro j ap ⟨rfl,c4⟩;have a8:=((kh W0.heap.size W0).alloc nL (.cells #[.slice (dY e a 0 1) d a] 22)).trans (c4.mono (by simp));have dc:=a8.size;obtain ⟨bz,bD⟩:=hqq2 (a0.out.trans (a8.mono oM)) (aG.out.below a8 aG.out.lt);clear c4 a8 a0 aG c3;go_wp2_with fail;have cp:∀x,Below c w x->Rd x t 1 (dY e a 0 1) d (m.map bv):=fun x cY=>bY.out.below (cY.mono K);have y:=lhd cp;obtain ⟨n,b4⟩:=eqx ap.heap.size;have aj:Bk (ap.alloc (.cells #[.slice (dY e a 0 1) d a,(4:Int),false] 157)) n 157 (aIo (dY e a 0 1) d a 4):=b4 ▸ ke _ _ _;have aX:=bz.out.alloc oM (.cells #[.slice (dY e a 0 1) d a,(4:Int),false] 157);have b6:=bD.out.alloc (.cells #[.slice (dY e a 0 1) d a,(4:Int),false] 157);have br:n < (ap.alloc (.cells #[.slice (dY e a 0 1) d a,(4:Int),false] 157)).heap.size:=aj.lt;have dK:c < n:=oM;rw [b4];generalize ap.alloc (.cells #[.slice (dY e a 0 1) d a,(4:Int),false] 157)=W2 at aj aX b6 br⊢;obtain ⟨bQ,aB,bE⟩:=hqq3 aj aX b6;have cd:∀(x bt:World),Below c w x->n < x.heap.size->Keep (fun o=>o=n) x bt->Below c w bt:=fun x bt a5 aP a6=>a5.trans (a6.to_below oM (fun o a7 j=>by omega));have D:=lhd cd;clear cp b4 aj aX b6 cd bz bD bB dc bp;have E:d<=a:=oM;refine (nD n (dY e a 0 1) d a t 4 cx most 2147483648 m W2 bQ.out (y.out _ aB.out) E O (C.out.n1 oM) oM oM).mono ?_;rintro j cD ⟨rfl,bi,b8⟩;obtain ⟨bS,aC,bF⟩:=hqq3 bi (D.out _ _ aB.out br b8) (b8.bk bE.out oM);have cs:n < cD.heap.size:=bi.lt;clear bi b8 bQ aB bE br;go_wp2_with fail;refine (nD n (dY e a 0 1) d a t cx cy rate 64 m cD bS.out (y.out _ aC.out) E O (C.out.n2 oM) oM oM).mono ?_;rintro j cE ⟨rfl,bj,b9⟩;obtain ⟨bT,aD,bG⟩:=hqq3 bj (D.out _ _ aC.out cs b9) (b9.bk bF.out oM);have ct:n < cE.heap.size:=bj.lt;clear bj b9 bS aC bF cs;go_wp2_with fail;refine (nD n (dY e a 0 1) d a t cy cz b 2147483648 m cE bT.out (y.out _ aD.out) E O (C.out.n3 oM) oM oM).mono ?_;rintro j aq ⟨rfl,bl,ba⟩;obtain ⟨bU,bA,bH⟩:=hqq3 bl (D.out _ _ aD.out ct ba) (ba.bk bG.out oM);have df:n < aq.heap.size:=bl.lt;clear bl ba bT aD bG ct;go_wp2_with fail;obtain ⟨gH,b2⟩:=eqx aq.heap.size;have aQ:Bk (aq.alloc (.cells #[(most:Int),(rate:Int),(b:Int)] 107)) gH 107 (sB most rate b):=b2 ▸ ke _ _ _;have aY:=bA.out.alloc oM (.cells #[(most:Int),(rate:Int),(b:Int)] 107);have b7:=bH.out.alloc (.cells #[(most:Int),(rate:Int),(b:Int)] 107);have A:=bU.out.alloc (.cells #[(most:Int),(rate:Int),(b:Int)] 107);have dG:n < gH:=oM;rw [b2];generalize aq.alloc (.cells #[(most:Int),(rate:Int),(b:Int)] 107)=W5 at aQ aY b7 A⊢;have cu:n < W5.heap.size:=A.lt;obtain ⟨bu,aE,bI,bX⟩:=hqq4 aQ aY b7 A;clear b2 aQ aY b7 A bA bH bU df;obtain ⟨an,cb⟩:=eqx ((gY l).length);obtain ⟨dh,cc⟩:=eqx ((wW i rate b).length);have d3:=qR l;have d5:=rJ i rate (b / rate+1);have d4:=aJX i rate (b / rate+1);have dE:b / rate<=b:=Nat.div_le_self _ _;rw [<-vW,cc] at d5 d4;rw [cb,a2.out] at d3;obtain ⟨U,bf,cl,bg,d8⟩:=C.out.f1 oM;obtain ⟨dk,bh,d9,cm,da⟩:=C.out.f2 oM;rw [cb] at bf cl bg;rw [cc] at bh d9 cm;rw [cO.out] at d8 da;refine (sY n (dY e a 0 1) d a t cz U an cA m W5 bX.out (y.out _ aE.out) E O oM bf cl oM).mono ?_;rintro j cF ⟨rfl,bm,ag⟩;obtain ⟨bV,aF,bJ,bx⟩:=hqq4 bm (D.out _ _ aE.out cu ag) (ag.bk bI.out oM) (ag.bk bu.out oM);have cv:n < cF.heap.size:=bm.lt;clear bm ag bX aE bI bu cu;go_wp2_with fail;refine (sY n (dY e a 0 1) d a t cA dk dh d m cF bV.out (y.out _ aF.out) E O oM bh oM oM).mono ?_;rintro j I ⟨rfl,A,ah⟩;have cT:I.cell? ⟨n,2,none⟩=some (.bool false):=A.cell 2;obtain ⟨J,aL⟩:=hqq2 (D.out _ _ aF.out cv ah) (ah.bk bJ.out oM);have L:=ah.bk bx.out oM;have Y:=lhd L;have a3:I.cell? gH=some (.int .i64 (most:Int)):=L.cell 0;have a4:I.cell? ⟨gH,1,none⟩=some (.int .i64 (rate:Int)):=L.cell 1;have c0:I.cell? ⟨gH,2,none⟩=some (.int .i64 (b:Int)):=L.cell 2;clear A ah bV aF bJ bx cv L;have cB:¬((rate:Int) < 1):=oM;have dl:decide ((rate:Int) < 1)=false:=zBy cB;have cC:¬((b:Int) > (most:Int)):=oM;have dm:decide ((b:Int) > (most:Int))=false:=zBy cC;have dn:decide (most < b)=false:=zBy oM;go_wp2_with fail;have bo:=((y.out _ J.out).cut (k:=U) (cap:=a) oM E).cut_hi (k:=an) oM;have c8:((m.map bv).drop (U*1)).take (an*1)=(gY l).map bv:=by rw [zBl,zBl,<-List.map_drop,<-List.map_take,bg]
 rw [c8] at bo;have b3:=aBk (jS l) (aCk cM.out) (by rw [oK,a2.out];omega) ((b:Int)+1) (by rw [oK,a2.out];omega) [];rw [List.append_nil,zBx rfl] at b3;refine (aHo (dY (dY e a 0 1) a U 1) an (a - U) t (gY l) ((b:Int)+1) I (jS l) (b+1) 0 b3 (by rw [oK,a2.out]) bo (by have:=J.out.size;omega) oM oM oM oM).mono ?_;rintro j cG ⟨cI,cS,rfl,ch,a9⟩;have bd:=ch.rd;rw [<-aKJ] at bd;have aW:=yY cI cS cG.heap.size f i cG bZ.out (by rw [Z.out,u.out];exact bd) nL (by rw [u.out];omega);rw [u.out] at aW;have d1:gH < I.heap.size:=Y.out.lt;have ax:=lhd (J.out.trans (a9.mono (by have:=J.out.size;omega)));obtain ⟨aI,au⟩:=hqq2 (aL.out.below a9 aL.out.lt) (Y.out.below a9 Y.out.lt);clear ch a9 bd b3 c8 bo a3 a4 c0 cT cB dl cC dm dn bf bh bg cm Y aL J y D C d1;go_wp2_with fail;refine aW.mono ?_;clear aW;rintro j s ⟨ar,aM,rfl,ci,aa⟩;have aS:=au.out.below aa au.out.lt;have ay:=lhd (ax.out.trans (aa.mono (by have:=ax.out.size;omega)));obtain ⟨a1,X,bO⟩:=hqq3 (aI.out.below aa aI.out.lt) aS ci.rd;have a4:s.cell? ⟨gH,1,none⟩=some (.int .i64 (rate:Int)):=aS.cell 1;clear aa ci aS ax aI au;go_wp2_with fail
 have ck:=tC rate (some ⟨s.heap.size,0,none⟩) 1 1 (s.heap.size+1) [(⟨ar,b,aM,f⟩:Sl)] f b (by simp [iN]) u.out (s.alloc (.cells #[.slice ar b aM] 22)) ((Rd.made s _ 1 1 _ rfl).mono (by simp)) (by
  intro dU H;simp at H;subst H;exact (bO.out.alloc nL _).mono oM) (by simp) oM cj cn co
 refine ck.mono ?_;clear ck;rintro j ao ⟨gl,di,rfl,d2,z,aV⟩;have bN:=lhd z;obtain ⟨gk,cX,dT,dt,bs,dj,R,_,_⟩:=z;have ak:=R.suf;have cq:=R.right;have db:=ak.unique bZ.out;subst db;have z:=R.live.g R.tal;rw [Z.out,u.out] at z;have ab:=((kh s.heap.size s).alloc nL (.cells #[.slice ar b aM] 22)).trans (aV.mono (by simp));have aT:=X.out.below ab X.out.lt;have az:=lhd (ay.out.trans (ab.mono (by have:=ay.out.size;omega)));obtain ⟨bC,bw⟩:=hqq2 (a1.out.below ab a1.out.lt) aT;have a3:ao.cell? gH=some (.int .i64 (most:Int)):=aT.cell 0;have dI:gH < s.heap.size:=X.out.lt;have dH:c < s.heap.size:=a1.out.lt;have bK:=bN;have dr:=lhd ak;rw [sZ0] at z;have dd:s.heap.size+1<=ao.heap.size:=by have:=aV.size;simpa using this
 have al:=sV (s.heap.size+1) gl gk cX rate most f bs dj ao (by rw [Z.out,u.out];exact z) cq ak (by rw [u.out];omega) cn co (by rw [u.out];omega) d7;unfold iQ at al;rw [Z.out,u.out,cP.out] at al;have dF:=az.out.size;clear z ak R cq bN aV ab aT a4 ay a1 X bO d2;go_wp2_with fail;refine al.mono ?_;clear al;rintro j V ⟨cH,cR,rfl,cg,am⟩;have af:Below (s.heap.size+1) ao V:=am.2.to_below dd (fun o a7 j=>by omega);have dN:=am.1.size;have c1:Bk V gH 107 (sB most rate b):=bw.out.below af oM;have c9:Bk V c 107 #[o0,o0,o0]:=bC.out.below af oM;have aA:=lhd (az.out.trans (af.mono oM));have b1:=zK cH e (d+4) (d+4) cR a V.heap.size (gI l bs most rate b) (gI l bs most rate b) V cg.rd ((bP.out.below (aA.out.mono K)).mono oM);rw [beq_self_eq_true] at b1;obtain ⟨av,aK,bL⟩:=hqq3 c1 c9 (bK.out.vis am.1);clear cg am af c1 c9 az bC bw a3 bK;go_wp2_with fail;refine b1.mono ?_;clear b1;rintro j r ⟨rfl,N⟩;have c2:=av.out.below N av.out.lt;have ca:=aK.out.below N aK.out.lt;obtain ⟨cK,bM,aw,v⟩:=hqq4 (aA.out.trans (N.mono oM)) (bL.out.vis (kc N)) c2 ca;clear N c2 ca aA av aK bL;go_wp2_with fail;have a3:r.cell? gH=some (.int .i64 (most:Int)):=aw.out.cell 0;have a4:r.cell? ⟨gH,1,none⟩=some (.int .i64 (rate:Int)):=aw.out.cell 1;have c0:r.cell? ⟨gH,2,none⟩=some (.int .i64 (b:Int)):=aw.out.cell 2;have dO:r.cell? c=some (.int .i64 0):=v.out.cell 0;have dP:r.cell? ⟨c,1,none⟩=some (.int .i64 0):=v.out.cell 1;have dQ:r.cell? ⟨c,2,none⟩=some (.int .i64 0):=v.out.cell 2;have dA:=v.out.frozen 0;have dB:=v.out.frozen 1;have dC:=v.out.frozen 2;have c7:Bk ((((r.setCell c (.int .i64 (most:Int))).setCell ⟨c,1,none⟩ (.int .i64 (rate:Int))).setCell ⟨c,2,none⟩ (.int .i64 (b:Int))).drew) c 107 (sB most rate b):=by have:=(((v.out.set 0 (.int .i64 (most:Int))).set 1 (.int .i64 (rate:Int))).set 2 (.int .i64 (b:Int))).drew;simpa [sB] using this
 have c5:Below c w ((((r.setCell c (.int .i64 (most:Int))).setCell ⟨c,1,none⟩ (.int .i64 (rate:Int))).setCell ⟨c,2,none⟩ (.int .i64 (b:Int))).drew):=
  (((cK.out.setCell (p:=c) nL _).setCell (p:=⟨c,1,none⟩) nL _).setCell (p:=⟨c,2,none⟩) nL _).drew
 have de:∀o f aO,f≠107->Bk r o f aO->Bk ((((r.setCell c (.int .i64 (most:Int))).setCell ⟨c,1,none⟩ (.int .i64 (rate:Int))).setCell ⟨c,2,none⟩ (.int .i64 (b:Int))).drew) o f aO:=fun o f aO dg a7=>by
  have be:o≠c:=fun j=>by subst j;exact dg (aKs a7 v.out)
  exact (((a7.far (p:=c) be _).far (p:=⟨c,1,none⟩) be _).far (p:=⟨c,2,none⟩) be _).drew
 have ce:Keep (fun o=>o=c) r ((((r.setCell c (.int .i64 (most:Int))).setCell ⟨c,1,none⟩ (.int .i64 (rate:Int))).setCell ⟨c,2,none⟩ (.int .i64 (b:Int))).drew):=
  (((((kf (fun o=>o=c) r).setCell (p:=c) (.inl rfl) _).setCell (p:=⟨c,1,none⟩) (.inl rfl) _).setCell (p:=⟨c,2,none⟩) (.inl rfl) _)).drew
 have cf:=(bM.out.far0 ce fun o j=>by
  have cU:o=c:=j;subst cU;by_cases a:di o=0;exact a
  · have:=(bM.out.bnd o a).1;rw [sZ0] at this;omega).low (B':=c) (by rw [sZ0];omega)
 obtain ⟨cL,cJ,cQ⟩:=hqq3 c7 c5 cf;clear c7 c5 de cf ce
 go_region
 go_wp2_with fail;subst ae;refine aIS rfl rfl rfl cL.out ⟨_,cQ.out⟩ (kd cJ.out)
def StAt.save {w c gs gl most rate own b d} (a:StAt w c own gs gl most rate b) (k:IsSuf (aJ b) d):
 Calls prog 65 #[gl,(most:Int)] w (iQ w c (gI (aH (aJ b) d) d most rate b.length)):=by
 obtain ⟨m,gk,f,l,e,g,j,n,i⟩:=a.tp;obtain rfl:=e.unique k;exact sV c gl gk f rate most b m l w g j e i a.r1 a.r2 a.len a.max
def aE9 (k own gs gl most rate n o w) (q:StAt w k own gs gl most rate n) (C:IsSuf (aJ n) o):
 Calls prog 30 #[gs] w (iQ w k (gI (aH (aJ n) o) o most rate n.length)):=by
 have s:∀w1,VB k w w1->Calls prog 65 #[gl,(most:Int)] w1 (iQ w1 k (gI (aH (aJ n) o) o most rate n.length)):=fun w1 u=>(q.vb u.1).save C;obtain ⟨l,z⟩:=eqx (gI (aH (aJ n) o) o most rate n.length);rw [z] at s⊢;obtain ⟨f,e⟩:=eqx l.length;obtain ⟨H,x,y⟩:=hqq3 s e q.blk;clear s q C z e;unfold iQ;rw [x.out];go_enter func30,ntmps30;go_wp2_with fail;refine wp_region_any kR ?_;refine aO [6,7,8,9,10,11,12,13,14,15,16,2,3] (VB k) (Vs [is gs,is gs,is gs,is gl,is gs,is gs,is (.pointer (some ⟨gs,1,none⟩)),is (most:Int),fun g i=>∃a b,g=.tuple #[.slice a f b,o0]/\Made i w.heap.size 5 1 a f b (l.map bv),fun g i=>∃a b,g=.slice a f b/\Made i w.heap.size 5 1 a f b (l.map bv),is o0,fun g i=>∃a b,g=.slice a f b/\Made i w.heap.size 5 1 a f b (l.map bv),is o0]) _ _ rfl kR vR (fun _ _=>VisK.trans) (cS (by repeat' (first | exact jA _ _ | exact kM _ | exact fun _ _ _ ⟨E,I,N,O⟩ u=>⟨E,I,N,u.1.made O dC dC⟩|(refine zAe.2 ⟨?_,?_⟩)|(intro a0 P;cases P)))) ?_ ?_
 · refine aK ?_;refine pH 0 (.pointer (some gs)) ?_;refine pV 0 6 ?_;refine pV 1 7 ?_;refine sC (fun _ j c _ _ _ d _ _ _ e=>?_) ?_
   · have Y:_=_:=d 2 8 kR rfl;replace c:(VB k) w j:=bD c;have r:=c.1.bk y.out dC dC;have J:=r.cell 0;go_simp;exact e _ _ vR rfl
   refine pH 0 (.pointer (some gs)) ?_;refine pV 4 10 ?_;refine pV 5 11 ?_;refine sC (fun _ j c _ _ _ d _ _ _ e=>?_) ?_
   · have V:_=_:=d 6 12 kR rfl;replace c:(VB k) w j:=bD c;have r:=c.1.bk y.out dC dC;have J:=r.cell 1;go_simp;exact e _ _ vR rfl
   refine sC (fun _ j c _ _ _ d _ _ _ e=>?_) ?_
   · have Z:_=_:=d 3 9 kR rfl;have W:_=_:=d 7 13 kR rfl;replace c:(VB k) w j:=bD c;go_simp;have t:=H.out j c;unfold iQ at t;rw [x.out] at t;refine t.mono ?_;rintro U a1 ⟨a,b,rfl,p,Q⟩;exact e _ _ Q ⟨a,b,rfl,p.mono c.1.size⟩
   refine sC (fun m j _ _ _ _ d _ _ _ e=>?_) ?_
   · have v:(fun g i=>∃a b,g=.tuple #[.slice a f b,o0]/\Made i w.heap.size 5 1 a f b (l.map bv)) (m (.tmp 14)) j:=d 8 14 kR rfl;obtain ⟨a,b,K,p⟩:=v;go_simp;exact e _ _ vR ⟨a,b,rfl,p⟩
   refine sC (fun m j _ _ _ _ d _ _ _ e=>?_) ?_
   · have v:(fun g i=>∃a b,g=.tuple #[.slice a f b,o0]/\Made i w.heap.size 5 1 a f b (l.map bv)) (m (.tmp 14)) j:=d 8 14 kR rfl;obtain ⟨a,b,K,p⟩:=v;go_simp;exact e _ _ vR rfl
   refine sC (fun m j _ _ _ _ d _ _ _ e=>?_) ?_
   · have R:(fun g i=>∃a b,g=.slice a f b/\Made i w.heap.size 5 1 a f b (l.map bv)) (m (.tmp 15)) j:=d 9 15 kR rfl;obtain ⟨a,b,X,p⟩:=R;go_simp;exact e _ _ vR ⟨a,b,rfl,p⟩
   refine pV 10 16 ?_;exact aC
 · intro m D c d;replace c:(VB k) w D:=bD c;have S:(fun g i=>∃a b,g=.slice a f b/\Made i w.heap.size 5 1 a f b (l.map bv)) (m (.tmp 2)) D:=d 11 2 rfl;have M:m (.tmp 3)=.int .i64 0:=d 12 3 rfl;simp only [zqq];rw [M];clear d;obtain ⟨a,b,L,A⟩:=S;rw [L];obtain ⟨G,F⟩:=hqq2 A c;clear A c;go_wp2_with fail;go_ret2;exact ⟨a,b,rfl,G.out,F.out⟩
section
open Go
def tL {s:Program} {b:Array Oper} {t:Exit->Act->World->Prop} {k:Region.Mode} (d:Nat) (u:List Nat) (g:Nat->Prop) (c:Nat) (x:List Nat) (q:World->Prop) (p:Value->World->Prop) (o:List (Value->World->Prop)) (l:Act) (i:World)
 (J:(b.toList.take d).filterMap (·.dst)=u) (M:d<=b.size) (L:iT k b l.tmps.size=true) (S:((List.range b.size).all fun e=>decide (e < d)||(List.range d).all fun a=>upB k b b.size e a)=true)
 (P:(x.all fun a=>a==c||upB k b b.size c a)=true)
 (O:q i) (N:∀w w',q w->Keep g i w->Grow w w'->q w') (I:Stb p) (Q:∀V∈o,uE g V)
 (R:∀j E,j < d->b[j]?=some E->cX s b t k (Keep g i) (qB g c) (fun a w=>x.contains a=true->q w) (VsJ c p o) l j E)
 (K:∀(z:Operand->Value) w f,Keep g i w->(∀a y,a < d->((b[a]?).bind (·.dst))=some y->VsJ c p o a (z (.tmp y)) w)->(∀a,a < d->∃r,VsJ c p o a r w)->wpAny s k b t (b.size - d+f) (bX d b.size) (dK z u l) w):
 wpAny s k b t b.size (Array.replicate b.size false) l i:=by
 refine uK d u (Keep g i) (qB g c) (fun a w=>x.contains a=true->q w) (VsJ c p o) l i J M L S (kf _ _) (fun _ _=>O) (fun j w w' _ G e=>G.trans (kH e)) (fun a j w w' _ v U m H e C=>?_) (fun a j r w w' _ v _ n _ e=>?_) R K;by_cases D:j=c;exfalso;subst D;have A:=zBf.1 P a (by simpa using C);simp only [U,Bool.or_false,zCq] at A;exact v A;exact N w w' (m C) H (e.2 D);unfold VsJ at n⊢;by_cases m:a=c;rw [zBx m] at n⊢;exact I r w w' n (e.2 fun F=>v (m.trans F.symm));rw [zBw m] at n⊢;exact wS Q a r w w' n (kH e)
end
def aJs (w:World) (B:Nat) (own:Nat->Nat) (gs most rate:Nat) (c:List UInt8) (a:Ending) (w':World):Prop:=
 a=.returned (.int .i64 0)/\∃own' b,StAt w' B own' gs b most rate c/\LFS B gs w w' own own'
def aFb (B own gs gl y ao most rate C z o ap c j w) (d:StAt w B own gs gl y ao ap) (ak:IsSuf (aJ c) j) (Y:c.length<=127) (a0:1<=rate) (a1:rate<=64) (W:c.length<=most) (X:most<=2147483648) (K:(gI (aH (aJ c) j) j most rate c.length).length=z) (Z:Rd w w.heap.size 1 C z ((gI (aH (aJ c) j) j most rate c.length).map bv)) (ag:z<=o) (ah:o<=maxLen):
 Calls prog 31 #[gs,.slice C z o] w (aJs w B own gs most rate c):=by
 have v:=aBH C o w.heap.size most rate c j w ak Y a0 a1 W X (by rw [K];exact Z) nL (by rw [K];exact ag) ah;rw [K] at v;unfold zF at v;obtain ⟨O,D⟩:=hqq2 v d;clear v Z d;go_enter func31,ntmps31;go_wp2_with fail;refine O.out.mono ?_;rintro ay w1 ⟨l,rfl,⟨a3,a2⟩,x⟩;have aG:=x.1.size;have P:=lhd x;have J:=x.1.bk D.out.blk dC dC;have U:=D.out.blk.lt;obtain ⟨r,aj⟩:=eqx w1.heap.size;have s:Below w1.heap.size w1 (w1.alloc (.cells #[(most:Int),(rate:Int),(c.length:Int)] 107)):=bR.alloc nL _;have V:Bk (w1.alloc (.cells #[(most:Int),(rate:Int),(c.length:Int)] 107)) r 107 #[(most:Int),(rate:Int),(c.length:Int)]:=aj ▸ ke _ _ _;have S:=J.below s J.lt;obtain ⟨E,n,M,N,a8⟩:=hqq5 (a2.vis (kc s)) s S V (show ¬r=gs by omega);clear a2 x O s V J S;unfold sB;go_wp2_with fail;generalize ac:w1.alloc (.cells #[(most:Int),(rate:Int),(c.length:Int)] 107)=W1 at E n M N⊢;clear ac;refine wp_region_any kR ?_;refine tL 10 [18,19,20,21,22,23,24,25,26] (fun a=>a=gs) 7 [7] (fun k=>Bk k gs 52 #[gl,(y:Int)]) (fun _ k=>Bk k gs 52 #[l,.int .i64 (y:Int)]) [is gs,is gs,is l,is r,is (most:Int),is gs,is gs,cJ,is gs,is (.pointer (some ⟨gs,1,none⟩))] _ _ rfl dC kR kR kR (M.out) (fun w1 k d _ ai=>kg d ai d.lt) (fun _ _ _ d al=>kg d al d.lt) tA0 ?_ ?_
 · refine bJ ?_;refine pH3 0 (.pointer (some gs)) ?_;refine pH3 0 (.pointer (some gs)) ?_;refine pH3 5 (.pointer (some l)) ?_;refine pH3 6 (.pointer (some r)) ?_;refine sC3 (fun _ ar g _ _ _ _ e _ _ _ m=>?_) ?_
   · replace g:Keep (fun a=>a=gs) W1 ar:=kD g;have aA:_=_:=e 3 21 kR rfl;have ax:=(Keep.bk g N.out a8.out).cell 0;go_simp;exact kq m rfl
   refine pV3 0 18 ?_;refine pV3 5 23 ?_;refine sC3 (fun _ _ _ ab _ _ _ e _ _ _ m=>?_) ?_
   · have L:=ab rfl;have aB:_=_:=e 6 24 kR rfl;have az:_=_:=e 2 20 kR rfl;have aE:=L.frozen 0;have aw:=L.cell 0;go_simp;exact m (.bool true) _ (aT (ka (F:=fun a=>a=gs) (kf _ _) (p:=gs) (.inl rfl) _)) (L.set 0 _)
   refine pV3 1 19 ?_;refine pV3 8 25 ?_;exact aC
 · intro Q A b g e R;replace g:Keep (fun a=>a=gs) W1 A:=kD g;have a9:Q (.tmp 22)=.int .i64 (most:Int):=e 4 22 dC rfl;have aa:Q (.tmp 26)=.pointer (some ⟨gs,1,none⟩):=e 9 26 dC rfl;simp only [zqq];rw [a9];rw [aa];clear e;obtain ⟨aq,a4⟩:=R 7 dC;have an:(fun _ k=>Bk k gs 52 #[l,.int .i64 (y:Int)]) aq A:=a4;clear a4 R;have t:=an;have aD:=t.frozen 1;have av:=t.cell 1;obtain ⟨a5,a7⟩:=hqq2 t g;clear t;change wpAny prog Region.Mode.any _ _ (1+b) (bX 10 11) _ A;rw [zCs 1 b];refine bQ (f:=b) (i:=10) kR ?_;refine bY rfl rfl ?_;generalize m:wpAny prog _ _ _ b _=K5;go_simp;subst m;refine bV kR ?_;have u:Keep (fun a=>a=gs) W1 (A.setCell ⟨gs,1,none⟩ (.int .i64 (most:Int))):=a7.out.setCell (p:=⟨gs,1,none⟩) (.inl rfl) _;have ad:=a5.out.set 1 (.int .i64 (most:Int));obtain ⟨au,a6⟩:=hqq2 u ad;have H:=D.out;go_wp2_with fail;go_ret;have aF:=n.out.size;have af:=H.size;have ae:=E.out.bnd;have G:∀a,a < w.heap.size->a3 a=0:=fun a I=>Nat.eq_zero_of_not_pos fun b=>by have:=(ae a oM).1;omega
   refine ⟨rfl,a3,l,⟨a6.out,H.low,G _ U,(E.out.far0 u (fun a b=>by have q:a=gs:=b;subst q;exact G _ U)).low af,Y,W,X,a0,a1⟩,⟨fun a I b=>absurd (G a I) b,?_,?_⟩⟩;exact ((VisF.of_vis P.out.1).trans' (VisF.of_vis (kc n.out)) (fun a _ b=>b)).trans' (VisF.of_keep u) (fun a _ b=>.inr b)
   · have am:Keep (fun a=>B<=a) w w1:=P.out.2.mono fun a I b=>by have q:w.heap.size<=a:=b;show B<=a;omega
     exact (am.trans (kF n.out)).trans (u.mono fun a _ b=>by have q:a=gs:=b;subst q;exact H.low)
def aAP (w:World) (d:Nat) (g:List UInt8) (e a:Nat) (f:Ending) (w':World):Prop:=
 ∃b c,f=.returned (.tuple #[.slice b a c,o0])/\Made w' w.heap.size 5 1 b a c (((g.drop e).take a).map bv)/\VB d w w'
def aHs (j gl rate d c v w) (A:TpAt w j gl d rate) (a4:TabW w) (ax:1 < j) (br:c+v<=d.length):
 Calls prog 27 #[gl,(c:Int),(v:Int)] w (aAP w j d c v):=by
 obtain ⟨bz,bn,ah,bw,bx⟩:=info_parts vU;obtain ⟨r,gk,bh,bK,M,K,aO,ah,aF⟩:=A;have aA:r.length=d.length+1:=by rw [M.len,aR]
 have a2:(aH (aJ d) r).length=d.length+1:=by rw [bW,aA]
 have X:∀q,q<=d.length->∃D,r[D]?=some q:=fun q aM=>by obtain ⟨D,bo,k⟩:=M.row (p:=q) (by rw [aR];omega);exact ⟨D,zAc.2 ⟨bo,k⟩⟩
 have aL:∀(m D q:Nat) (g:UInt8),r[m]?=some (q+1)->r[D]?=some q->d[q]?=some g->(aH (aJ d) r)[m]?=some (g.toNat+1)/\cL (aH (aJ d) r) (g.toNat+1) m=D:=fun m D q g a0 a1 S=>aIE M a0 a1 S;obtain ⟨m,aa⟩:=X c oM;have aN:=gG j gl gk bh rate d r bK m c w K aO M aF aa;obtain ⟨c5,a7⟩:=K.blk;clear aO ah;obtain ⟨E,a3⟩:=eqx d.length;rw [a3] at a2 X br aF;have c3:1 < w.heap.size:=a4.pos;have bZ:=a7.lt;have bB:decide ((c:Int) < 0)=false:=by simp
 have bD:decide ((v:Int) < 0)=false:=by simp
 have aT:¬E < c:=oM;have bE:decide (E < c)=false:=zBy aT;obtain ⟨Z,bm⟩:=eqx (E - c);have bF:IntKind.i64.wrap ((E:Int) -(c:Int))=(Z:Int):=by rw [wI0];omega
 have aU:¬Z < v:=oM;have bG:decide (Z < v)=false:=zBy aU;obtain ⟨an,au,al,b7,b4,Q⟩:=hqq6 K.lvw K.walk a7 X aL a2;have aj:=lhd (dR (fB d) (rs:=r));obtain ⟨aZ,ak,aX⟩:=hqq3 aa a4 a3;clear a7 K X aL a2 aa a4 M aA a3 bm;unfold aAP;go_enter func27,ntmps27;go_wp2_with fail;refine (cD j gl _ E w an.out Q.out oM).mono ?_;rintro k w1 ⟨rfl,rfl⟩;go_wp2_with fail;refine (cD j gl _ E w an.out Q.out oM).mono ?_;rintro k w1 ⟨rfl,rfl⟩;go_wp2_with fail;refine aN.mono ?_;rintro k n ⟨rfl,aP⟩;have ba:=lhd aP;clear aN aP bB bD aT bE bF aU bG;go_wp2_with fail;go_loopw [8,9,40] (fun bL t m wr=>∃a row:Nat,a<=v/\m=.int .i64 (a:Int)/\t=.int .i64 (row:Int)/\r[row]?=some (c+a)/\wr.ownsRow w.heap.size 5 1 bL a (((d.drop c).take a).map bv)/\VB j w wr) (fun _ _ m _=>v -(intOf m).toNat)
 case atStart=>exact ⟨0,m,zAp _,rfl,rfl,aZ.out,kj _ _ _ _,ba.out⟩
 case round=>
  obtain ⟨a,row,V,rfl,rfl,ac,W,C⟩:=hrel;by_cases c0:a < v
  · obtain ⟨g,a9⟩:∃g,d[c+a]?=some g:=⟨_,zAa (by rw [aX.out];omega)⟩;obtain ⟨H,ad⟩:=b7.out (c+a+1) oM;obtain ⟨ae,af⟩:=b4.out H row (c+a) g ad ac a9;obtain ⟨O,ag⟩:∃O,O=g.toNat+1:=⟨_,rfl⟩;rw [<-ag] at ae af;have aI:((d.drop c).take (a+1)).map bv=((d.drop c).take a).map bv++ [bv g]:=(by rw [zAv,zBt,a9,zAz];rfl);have a6:=C.1.bk al.out dC dC;have bc:=a6.cell 0;have bA:=a6.lt;have c2:=C.1.size;have aQ:=au.out.vis C.1;obtain ⟨av,b9,ap,aq,ao,ar,b2,b8⟩:=hqq8 aQ ag ae af W C aI ad;clear ad ae af W C aI a6 aQ ac a9 ag;go_wp2_with fail;refine (pX j gk _ H row O wr av.out ap.out aq.out aj.out (by rw [Q.out];omega)).mono ?_;rintro k bO ⟨rfl,a5⟩;go_wp2_with fail;refine (vC g O b9.out bO).mono ?_;rintro k z ⟨rfl,az⟩;have G:Below wr.heap.size wr z:=a5.trans (az.mono a5.size);have L:=(kd (F:=fun b=>j<=b) G).1.own ao.out dC dC;have Y:=ar.out.below G;have a8:=Y.1.bk al.out dC dC;have aD:∀b,u8.ownBlock=some b->b < z.heap.size:=fun b J=>(L.lt b J).2;have aB:∀b,u8.ownBlock=some b->w.heap.size<=b:=fun b J=>(L.lt b J).1;have aK:¬u8.ownBlock=some gl:=fun k=>bC L a8 dC k.symm;have bs:=Y.1.size;obtain ⟨b5,R,aY,b0,am,b3⟩:=hqq6 L Y a8 aD aB aK;clear a5 az G L Y a8 aD aB aK bc bA ao ar av;go_wp2_with fail;refine wp_region_any kR ?_;refine cB j 10 [52,53,54,55,56,57,58,59,60,61] (fun b=>u8.ownBlock=some b) 3 [3] (fun n=>n.ownsRow w.heap.size 5 1 u8 a (((d.drop c).take a).map bv)) (fun t n=>n.ownsRow w.heap.size 5 1 t (a+1) (((d.drop c).take a).map bv++ [bv g])) [is (u8),is (bv g),fun t n=>∃y,t=.slice (some ⟨y,0,none⟩) 1 1/\Bk n y 5 #[bv g]/\u8.ownBlock≠some y,cJ,is gl,is gl,is gl,is gk,is (row:Int),is (H:Int)] _ _ rfl dC kR kR kR (b5.out) (fun w1 n A _ a=>a.1.own A dC dC) (fun _ _ _ A a=>a.1.own A dC dC) (by repeat' (first | exact jA _ _ | exact kM _ | exact fun _ _ _ ⟨y,a0,a1,S⟩ a=>⟨y,a0,a.1.bk a1 dC dC S,S⟩|(refine zAe.2 ⟨?_,?_⟩)|(intro q aM;cases aM))) ?_ ?_
    · refine bJ ?_;refine pH3 8 (u8) ?_;refine pH3 10 (bv g) ?_;refine sC3 (fun _ s e _ _ _ _ l _ _ _ o=>?_) ?_
      · replace e:VFB j (fun b=>u8.ownBlock=some b) z s:=fD e;have aw:_=_:=l 1 53 kR rfl;go_simp;exact o _ _ (aG (vR.alloc _)) ⟨_,rfl,ke _ _ _,fun A=>by have:=(b0.out _ A);have:=e.1.size;omega⟩
      refine sC3 (fun I s e bi _ _ _ l _ _ bj o=>?_) ?_
      · replace e:VFB j (fun b=>u8.ownBlock=some b) z s:=fD e;have bq:=bi rfl;have be:_=_:=l 0 52 kR rfl;have bH:(fun t n=>∃y,t=.slice (some ⟨y,0,none⟩) 1 1/\Bk n y 5 #[bv g]/\u8.ownBlock≠some y) (I (.tmp 54)) s:=l 2 54 kR rfl;obtain ⟨bg,aw,bl,c1⟩:=bH;subst bj;have bu:=e.1.size;refine eB s (.tmp 52) (.tmp 54) _ rfl w.heap.size 5 bz (.int .u8 0) 1 1 underlying22 bn ah bw bx rfl dC u8 a _ be bq s.heap.size (some ⟨bg,0,none⟩) 1 1 [bv g] aw (aEn bl) (by simp [Value.oneCell',bv]) (by unfold maxLen;omega) oM (zAk bs bu) ?_;intro bM P bp u bU;refine o _ _ (kK ⟨VisF.of_keep ⟨u.os,u.tape,u.output,u.size,fun a V ab=>u.block a V (fun k=>ab k.symm)⟩,⟨u.os,u.tape,u.output,u.size,fun a V ab=>u.block a V (fun k=>ab (.inl k.symm))⟩⟩) bp
      refine pH3 0 (.pointer (some gl)) ?_;refine pV3 4 56 ?_;refine pV3 5 57 ?_;refine sC3 (fun _ s e _ _ _ _ l _ _ _ o=>?_) ?_
      · replace e:VFB j (fun b=>u8.ownBlock=some b) z s:=fD e;have bR:_=_:=l 6 58 kR rfl;have G:=e.1.bk aY.out dC dC b3.out;have bP:=G.cell 0;have c4:=G.lt;go_simp;exact o _ _ (aG vR) rfl
      refine pH3 9 (.int .i64 (row:Int)) ?_;refine sC3 (fun _ s e _ _ U _ l _ _ _ o=>?_) ?_
      · replace e:VFB j (fun b=>u8.ownBlock=some b) z s:=fD e;have bS:_=_:=l 7 59 kR rfl;have bT:_=_:=l 8 60 kR rfl;go_simp;have N:=(VFB.trans (VFB.of_vb R.out) e).to_vb (fun b J U=>by have:=(am.out b U);omega);refine (qV j gk _ H row O s (au.out.vis N.1) ap.out aq.out aj.out (by rw [Q.out];omega) (ak.out.vb N ax ak.out.pos) ax).mono ?_;rintro k c6 ⟨rfl,bt⟩;exact o _ _ (aG bt) rfl
      exact aC
    · intro I P x e l ay;replace e:VFB j (fun b=>u8.ownBlock=some b) z P:=fD e;have ai:(fun t n=>n.ownsRow w.heap.size 5 1 t (a+1) (((d.drop c).take a).map bv++ [bv g])) (I (.tmp 55)) P:=l 3 55 dC rfl;have bf:I (.tmp 61)=.int .i64 (H:Int):=l 9 61 dC rfl;obtain ⟨bN,aV⟩:=ay 3 dC;have bI:(fun t n=>n.ownsRow w.heap.size 5 1 t (a+1) (((d.drop c).take a).map bv++ [bv g])) bN P:=aV;clear aV ay;simp only [zqq];rw [bf];clear l;have N:=(VFB.trans (VFB.of_vb R.out) e).to_vb (fun b J U=>by have:=(am.out b U);omega);change wpAny prog Region.Mode.any _ _ (2+x) (bX 10 12) _ P;rw [show 2+x=x+1+1 by omega];generalize I (.tmp 55)=bM at ai⊢;obtain ⟨b6,bb⟩:=hqq2 ai N;clear ai N e bI;refine bQ (f:=x+1) (i:=10) kR ?_;refine bY rfl rfl ?_;generalize o:wpAny prog _ _ _ (x+1) _=K5;go_simp;subst o;refine bQ (f:=x) (i:=11) kR ?_;refine bY rfl rfl ?_;generalize o:wpAny prog _ _ _ x _=K5;go_simp;subst o;refine bV kR ?_;go_wp2_with fail;go_roundw
      case rel=>exact ⟨a+1,H,by omega,by go_num,by first | rfl | trivial,b8.out,by rw [b2.out];exact b6.out,bb.out⟩
      case measure=>simp [intOf];omega
  · obtain rfl:a=v:=oM;obtain ⟨aW,bd,rfl,aE⟩:=aS W;obtain ⟨b1,R⟩:=hqq2 aE C;clear W aE C ac;go_wp2_with fail;go_ret2;exact ⟨aW,bd,rfl,b1.out,R.out⟩
def aBW (B d k s t u r g f b a q j row w) (l:PermAt w B d k s t u r g f b a q j) (p:b.Pairwise (fun x y=>aD a x < aD a y)) (C:b.length<=1099511627776) (o:∀c∈b,aD a c≠row):
 Calls prog 120 #[d,(row:Int)] w fun i w'=>i=.returned (.int .i64 (-1))/\Below w.heap.size w w':=by
 have e:=kW B d k s t u r g f b a q j row w l p C;have n:decide (∃c∈b,aD a c=row)=false:=by simp only [decide_eq_false_iff_not];rintro ⟨c,z,A⟩;exact o c z A
 rw [n] at e;clear l p o n;go_enter func120,ntmps120;go_wp2_with fail;refine e.mono ?_;rintro i w1 ⟨rfl,m⟩;have v:=lhd m;clear e m;go_wp2_with fail;go_ret;exact ⟨rfl,v.out⟩
def aBV (B k E L M N K y x d a J A row i w) (g:PermAt w B k E L M N K y x d a J A) (n:d.Pairwise (fun j p=>aD a j < aD a p)) (Z:d.length<=1099511627776) (a8:a.length<=1099511627776) (m:i∈d) (t:aD a i=row):
 Calls prog 120 #[k,(row:Int)] w fun z w'=>z=.returned (.int .i64 ((aI a i:Nat):Int))/\Below w.heap.size w w':=by
 have q:=kW B k E L M N K y x d a J A row w g n Z;have G:decide (∃v∈d,aD a v=row)=true:=zBz ⟨i,m,t⟩;rw [G] at q;obtain ⟨e,o,a2⟩:=(uB n row).2 ⟨i,m,t⟩;obtain ⟨f,I⟩:∃f,(d.countP fun v=>decide (aD a v < row))=f:=⟨_,rfl⟩;rw [I] at o q;have a4:e=i:=by
  obtain ⟨j,F,r⟩:=zBo.1 m;obtain ⟨p,s⟩:=zAc.1 o;rcases Nat.lt_trichotomy j f with b | b | b;have:=zAr.1 n j f F p b;rw [r,s] at this;omega
  · subst b;rw [<-r,<-s]
  have:=zAr.1 n f j p F b;rw [r,s] at this;omega
 subst a4;have af:f < d.length:=(zAc.1 o).1;have a3:e < a.length:=g.lt e m;obtain ⟨C,V,a1,ac,X⟩:=kk g.orow oM;obtain ⟨D,W,a0,ad,Y⟩:=kk g.lrow oM;subst a1;subst a0;have H:=(cH a e a3).2;obtain ⟨O,S,Q⟩:=hqq3 g o H;have ae:(f:Int) < (d.length:Int):=oM;have ag:(e:Int) < (a.length:Int):=oM;clear g n G a2 I o H m t;go_enter func120,ntmps120;go_wp2_with fail;refine q.mono ?_;rintro z w1 ⟨rfl,l⟩;have b:=O.out.below l;have a5:∀c,(w1.drewN c).cell? ⟨k,1,none⟩=some (.slice (some D) a.length W):=fun c=>(b.blk.cell 1).trans rfl;have a6:∀c,(w1.drewN c).cell? ⟨k,2,none⟩=some (.slice (some C) d.length V):=fun c=>(b.blk.cell 2).trans rfl;have ab:=b.blk.lt;have a7:∀c,(w1.drewN c).cell? ⟨C,f,none⟩=some (.int .i64 (e:Int)):=fun c=>(ki b.orow f oM).trans (by rw [zAf,S.out];rfl);have U:∀c,(w1.drewN c).cell? ⟨D,e*2+1,none⟩=some (.int .i64 ((aI a e:Nat):Int)):=fun c=>(ki b.lrow (e*2+1) oM).trans Q.out;have P:=lhd l;have a9:=zAl X l.size;have aa:=zAl Y l.size;obtain ⟨ah,u⟩:=eqx (aI a e);rw [u] at U;have R:=lhd u;clear q l b u;go_wp2_with fail;go_quiet (fail);go_wp2_with fail;go_ret;exact ⟨by rw [R.out];rfl,kn P.out _⟩
end
section
open Go.RowKit Go.Shelf
def aAd (a c b d row w) (j:PermR w a c b d) (n:∀v∈d,v.1≠row):
 Calls prog 120 #[a,(row:Int)] w fun f w'=>f=.returned (.int .i64 (-1))/\Below w.heap.size w w':=by
 obtain ⟨B,i,s,t,u,r,p,e,q,g,k,l,x,y,rfl⟩:=j;exact aBW B a i s t u r c b p e q g row w k l oM fun o m=>n _ (zAy.2 ⟨o,m,rfl⟩)
def pZ (b d c f row e w) (k:PermR w b d c f) (n:(row,e)∈f):
 Calls prog 120 #[b,(row:Int)] w fun a w'=>a=.returned (.int .i64 (e:Int))/\Below w.heap.size w w':=by
 obtain ⟨B,j,t,u,v,s,q,g,r,i,l,m,x,y,rfl⟩:=k;obtain ⟨p,o,a⟩:=zAy.1 n;injection a with e1 e2;subst e2;exact aBV B b j t u v s d c q g r i row p w l m oM oM o e1
def aB1 (u gl gk D rate:Nat) (e d f) (s m:Nat) (w) (E:LiveG w u gl gk D rate (e.length+1) (aH (aJ e) d) f) (X:∀k∈f,d[k.1]?=some k.2) (ai:∃k∈f,k.2=0) (r:IsSuf (aJ e) d) (aI:e.length<=127) (J:d[s]?=some m):
 Calls prog 63 #[gl,(s:Int)] w fun i w'=>i=.returned (.int .i64 (m:Int))/\VB u w w':=by
 have W:d.length=e.length+1:=by rw [r.len,aR]
 have az:=(zAc.1 J).1;have R:(aH (aJ e) d).length=e.length+1:=by rw [bW,W]
 have aK:m < e.length+1:=by have:=r.lt (zAd J);rwa [aR] at this
 obtain ⟨g,S⟩:=eqx e.length;have aj:∀a:Nat,d[a]?=some 0->(a,0)∈f:=fun a F=>by obtain ⟨⟨aN,aM⟩,K,i⟩:=ai;have ax:aM=0:=i;subst ax;have j:d[aN]?=some 0:=X _ K;rw [vX r F j];exact K
 have ac:∀a b c:Nat,d[a]?=some b->(a,c)∈f->c=b:=fun a b c o aG=>by have j:d[a]?=some c:=X _ aG;rw [o] at j;injection j with j;exact j.symm
 have ag:∀a b:Nat,d[a]?=some (b+1)->∃L t,(aH (aJ e) d)[a]?=some L/\cL (aH (aJ e) d) L a=t/\d[t]?=some b:=fun a b o=>by obtain ⟨F,a5⟩:=zAc.1 o;have V:b+1 < (aJ e).length:=r.lt (zAd o);obtain ⟨t,a8,a6⟩:=r.row (p:=b) oM;have aa:=eP e;have aE:=sA aa F a5 (by rw [aR] at V;omega);exact ⟨(aJ e).getD b 0,t,zAc.2 ⟨_,aE⟩,lf r aa F a8 a5 a6,zAc.2 ⟨a8,a6⟩⟩
 rw [S] at E;rw [S] at R aK aI W;have aD:¬(g:Int) < (s:Int):=oM;have aA:decide ((s:Int) < 0)=false:=by simp
 have aB:decide ((s:Int) > (g:Int))=false:=by simp;omega
 have aC:decide (g < s)=false:=by simp;omega
 obtain ⟨a1,aw,an,ar,a2⟩:=hqq5 E aj ac ag R;have ak:=lhd (dR (fB e) (rs:=d));have al:=lhd J;obtain ⟨aU,H⟩:=E.blk;have A:=H.cell 0;have C:=H.cell 1;have aQ:=H.lt;clear E aj ac ai X ag R r J az S W H;go_enter func63,ntmps63;go_wp2_with fail;refine (cD u gl _ g w a1.out.lvw a2.out oM).mono ?_;rintro i w1 ⟨rfl,rfl⟩;go_wp2_with fail;clear A C aD aA aB aC;go_loopw [1,5] (fun k a0 wr=>∃a b y:Nat,d[a]?=some b/\b+y=m/\k=.int .i64 (a:Int)/\a0=.int .i64 (y:Int)/\VB u w wr) (fun _ a0 _=>m+1 -(intOf a0).toNat)
 case atStart=>exact ⟨s,m,0,al.out,rfl,rfl,rfl,VisK.refl _ _⟩
 case round=>
  obtain ⟨a,b,y,o,V,rfl,rfl,Y⟩:=hrel;have j:=a1.out.vis Y.1;obtain ⟨aV,I⟩:=j.blk;have A:=I.cell 0;have C:=I.cell 1;have aS:=I.lt;obtain ⟨a4,z,N⟩:=hqq3 Y j o;clear j Y o I;by_cases G:∃c,(a,c)∈f
  · obtain ⟨c,U⟩:=G;have ay:=an.out a b c N.out U;subst ay;have a3:=lhd U;have aP:¬(c:Int) < 0:=oM;have aT:IntKind.i64.wrap ((c:Int)+(y:Int))=(m:Int):=(by rw [wI0];omega);clear U V;go_wp2_with fail;refine (pZ D (g+1) (g+1) f a c wr z.out.perm a3.out).mono ?_;rintro i Z ⟨rfl,q⟩;have n:=z.out.vis (kc q);obtain ⟨aL,l⟩:=n.blk;have P:=l.cell 0;have Q:=l.cell 1;have aF:=l.lt;have v:=a4.out.below q;obtain ⟨O,M⟩:=hqq2 v n;clear A C n v q l;go_wp2_with fail;refine (pZ D (g+1) (g+1) f a c Z M.out.perm a3.out).mono ?_;rintro i aO ⟨rfl,a9⟩;have x:=O.out.below a9;have au:=lhd x;clear P Q x a9;go_wp2_with fail;go_ret;exact ⟨rfl,au.out⟩
  · have ab:∀k∈f,k.1≠a:=fun k K i=>G ⟨k.2,by rw [<-i];exact K⟩;have am:=lhd ab
    obtain ⟨c,rfl⟩:∃c,b=c+1:=⟨b - 1,by
        rcases zBa b with a7 | a7;subst a7;exact absurd ⟨0,aw.out a N.out⟩ G
        · omega⟩
    obtain ⟨L,t,ad,ae,af⟩:=ar.out a c N.out;obtain ⟨ao,ap,aq⟩:=hqq3 ad ae af;clear ab G ad ae af;go_wp2_with fail;refine (aAd D (g+1) (g+1) f a wr z.out.perm am.out).mono ?_;rintro i Z ⟨rfl,q⟩;have n:=z.out.vis (kc q);obtain ⟨aL,l⟩:=n.blk;have P:=l.cell 0;have Q:=l.cell 1;have aF:=l.lt;have v:=a4.out.below q;obtain ⟨O,M⟩:=hqq2 v n;clear A C n v q l;go_wp2_with fail;refine (mY u gk _ a L Z M.out.walk ao.out ak.out (by rw [a2.out];omega)).mono ?_;rintro i aO ⟨rfl,x⟩;rw [ap.out];have ah:=O.out.trans x;have av:=lhd ah;clear P Q x ah;go_wp2_with fail;go_roundw
    case rel=>exact ⟨t,c,y+1,aq.out,by omega,rfl,by go_num,av.out⟩
    case measure=>simp [intOf];omega
end
section
open Go.RowKit
def aIw {c e} (g:IsSuf c e) (d a b) (q:b < e.length):Pq c d a e[b]=decide (b < Nq c d a):=by
 have o:e.countP (Pq c d a)=Nq c d a:=g.count _;have n:=tN (P:=Pq c d a) g.sorted (fun j x t u=>aBP a t u);rw [o] at n;rw [Bool.eq_iff_iff,zCa];constructor;intro m;by_cases k:b < Nq c d a;exact k;exfalso;have p:∀j∈e.take (b+1),Pq c d a j=true:=(by intro j s;obtain ⟨i,r,rfl⟩:=zBo.1 s;rw [zAj] at r;rw [List.getElem_take];rcases zBe i b with f | f;exact aBP a (zAr.1 g.sorted i b oM q f) m;obtain rfl:i=b:=oM;exact m);have f:=List.countP_eq_length.2 p;rw [zAj] at f;have v:(e.take (b+1)).countP (Pq c d a)<=e.countP (Pq c d a):=(List.take_sublist _ _).countP_le;omega;intro k;have l:e[b]∈e.take (Nq c d a):=(by rw [List.mem_take_iff_getElem];exact ⟨b,by omega,rfl⟩);rw [n,zCv] at l;exact l.2
def aJ3 {c f} (g:IsSuf c f) (b a) (j:a < f.length):tP c b f[a]=true↔Nq c false b<=a/\a < Nq c true b:=by
 obtain ⟨d,i⟩:=aJw c b f[a];rw [aIw g false b a j,aIw g true b a j] at d;rw [aIw g false b a j] at i;constructor;intro l;rw [l] at d i;constructor;rcases zBe a (Nq c false b) with e | e;exact absurd ⟨zBz e,rfl⟩ i;exact e;simpa using d;rintro ⟨e,k⟩;rw [zBz k,zBy oM] at d;simpa using d.symm
def aED {α:Type} (d:α->Bool) (b:List α) (a c) (q:a<=c) (r:c<=b.length) (k:∀j (s:j < b.length),d b[j]=true↔a<=j/\j < c):(b.drop a).take (c - a)=b.filter d:=by
 have m:b=b.take a++((b.drop a).take (c - a)++(b.drop a).drop (c - a)):=by rw [zAu,zAu]
 conv=>rhs;rw [m]
 rw [List.filter_append,List.filter_append];have n:(b.take a).filter d= []:=List.filter_eq_nil_iff.2 fun l g f=>by obtain ⟨i,e,rfl⟩:=zBo.1 g;rw [zAj] at e;rw [List.getElem_take] at f;have:=(k i oM).1 f;omega
 have o:((b.drop a).take (c - a)).filter d=(b.drop a).take (c - a):=List.filter_eq_self.2 fun l g=>by obtain ⟨i,e,rfl⟩:=zBo.1 g;rw [zAj,zAw] at e;rw [List.getElem_take,List.getElem_drop];exact (k (a+i) oM).2 ⟨by omega,by omega⟩
 have p:((b.drop a).drop (c - a)).filter d= []:=List.filter_eq_nil_iff.2 fun l g f=>by obtain ⟨i,e,rfl⟩:=zBo.1 g;rw [zAw,zAw] at e;rw [List.getElem_drop,List.getElem_drop] at f;have:=(k (a+(c - a+i)) oM).1 f;omega
 rw [n,o,p];simp
def gR (a b:List UInt8):List Nat:=(List.range (a.length+1)).filter (tP (aJ a) (dI b))
def aCx {b d} (c:IsSuf (aJ b) d) (a):((d.drop (Nq (aJ b) false (dI a))).take (Nq (aJ b) true (dI a) - Nq (aJ b) false (dI a))).Perm (gR b a):=by
 have e:Nq (aJ b) false (dI a)<=Nq (aJ b) true (dI a):=by rw [aFp];omega
 rw [aED (tP (aJ b) (dI a)) d _ _ e (by rw [c.len];exact aKN _ _ _) (fun g f=>aJ3 c (dI a) g f)];have:=c.perm.filter (tP (aJ b) (dI a));rw [aR] at this;exact this
def sI:∀(c d:List Int),c.Pairwise (fun a b=>a<=b)->d.Pairwise (fun a b=>a<=b)->c.Perm d->c=d
 | [],d,_,_,e=>e.nil_eq.symm ▸ rfl
 | a::c, [],_,_,e=>by simp at e
 | a::c,b::d,ha,hb,e=>by obtain ⟨j,k⟩:=List.pairwise_cons.1 ha;obtain ⟨l,m⟩:=List.pairwise_cons.1 hb;have n:a=b:=(by have g:a∈b::d:=e.mem_iff.1 (by simp);have i:b∈a::c:=e.mem_iff.2 (by simp);rcases List.mem_cons.1 g with f | g;exact f;rcases List.mem_cons.1 i with f | i;exact f.symm;have:=j b i;have:=l a g;omega);subst n;rw [sI c d k m (List.perm_cons a |>.1 e)]
def aCq {b e} (d:IsSuf (aJ b) e) (a):(((e.drop (Nq (aJ b) false (dI a))).take (Nq (aJ b) true (dI a) - Nq (aJ b) false (dI a))).map fun c:Nat=>(c:Int)).mergeSort (fun f g=>decide (f<=g))=(gR b a).map fun c:Nat=>(c:Int):=by
 refine sI _ _ ?_ ?_ ((List.mergeSort_perm _ _).trans ((aCx d a).map _));have:=List.pairwise_mergeSort (le:=fun f g:Int=>decide (f<=g)) (fun i j k l m=>by simp at*;omega) (fun i j=>by simp;omega) (((e.drop (Nq (aJ b) false (dI a))).take (Nq (aJ b) true (dI a) - Nq (aJ b) false (dI a))).map fun c:Nat=>(c:Int));exact this.imp fun d=>by simpa using d
 rw [List.pairwise_map];unfold gR;refine (List.Pairwise.filter _ List.pairwise_lt_range).imp fun {i j} d=>?_;omega
end
section
open Go.RowKit Go.Shelf
attribute [local go_sem] Oper.semAt_some
def aB9 (a c b w):
 Calls prog 118 #[.slice a c b] w fun d w'=>d=.returned (.func (.func 176) #[] #[w.heap.size])/\w'=w.alloc (.cells #[.slice a c b] 22):=by
 go_enter func118,ntmps118;go_wp2_with fail;go_ret;exact ⟨rfl,rfl⟩
def nQ (a:List Nat) (c:Nat×Nat) (b:UInt8):Nat×Nat:=(cL a (b.toNat+1) c.1,cL a (b.toNat+1) c.2)
def iI (a:List Nat) (b:List UInt8):Nat×Nat:=b.reverse.foldl (nQ a) (0,a.length)
def aFR (b:List Nat) (c:List UInt8):∀a:Nat×Nat,a.1<=a.2->a.2<=b.length->(c.foldl (nQ b) a).1<=(c.foldl (nQ b) a).2/\(c.foldl (nQ b) a).2<=b.length:=by
 induction c with
 | nil=>intro a d e;exact ⟨d,e⟩
 | cons g c f=>intro a d e;exact f _ (aGD b _ d) (wI b _ _)
def aKu (a):(bkL a a.length).map (·.2)=a.reverse:=by
 apply List.ext_getElem
 · simp [bkL]
 · intro b c e;have d:b < a.length:=(by simpa [bkL] using c);simp [bkL,List.getElem_reverse,d,show a.length - 1 - b < a.length by omega]
def aFI (a:Oper):Bool:=match a.op with
 | .defer _=>false
 | _=>true
def aIH {d:Array Oper} (e:d.toList.all aFI=true):∀(c:Nat) (a:Oper),d[c]?=some a->∀b,a.op≠.defer b:=by
 intro c a g b f;have:=zBf.1 e a (Array.mem_toList_iff.2 (Array.mem_of_getElem? g));unfold aFI at this;rw [f] at this;cases this
structure FInv (w0:World) (Bw gl gb glo gs b3:Nat) (sl:Value) (L:List Nat) (pre:List (Nat×UInt8)) (W:World):Prop where
 lo:Bk W glo 3 #[.int .i64 ((((pre.map (·.2)).foldl (nQ L) (0,L.length)).1:Nat):Int)]
 hi:Bk W (glo+1) 3 #[.int .i64 ((((pre.map (·.2)).foldl (nQ L) (0,L.length)).2:Nat):Int)]
 lv:LvW W Bw gl L
 box:Bk W gb 48 #[gl]
 bs:Bk W gs 22 #[sl]
 dat:∃t cs,Bk W b3 t cs/\t∈ [5,22]
 vis:VB Bw w0 W
def FInv.own {w0 p gl t u gs s B A q} (C:w0.heap.size<=B):OwnFrom B (fun z k=>FInv w0 p gl t u gs s A q z k):=by
 intro E k r row a d n;have g:∀b i f,Bk k b i f->Bk r b i f:=by intro b i f e;refine (d.block b e.lt fun c=>?_).trans e;obtain ⟨_,D,j,y⟩:=n b c.symm;unfold Bk at e;rw [e] at j;injection j with j;subst j;cases y
 obtain ⟨i,f,v,x⟩:=a.dat;refine ⟨g _ _ _ a.lo,g _ _ _ a.hi,a.lv.same g,g _ _ _ a.box,g _ _ _ a.bs,⟨i,f,g _ _ _ v,x⟩,⟨d.os.trans a.vis.1.os,d.tape.trans a.vis.1.tape,d.output.trans a.vis.1.output,zAk a.vis.1.size d.size,fun b e m=>?_⟩,⟨d.os.trans a.vis.1.os,d.tape.trans a.vis.1.tape,d.output.trans a.vis.1.output,zAk a.vis.1.size d.size,fun b e m=>(d.block b (zAl e a.vis.1.size) fun c=>?_).trans (a.vis.2.block b e m)⟩⟩;rcases a.vis.1.block b e m with c |⟨f,o,c,l⟩|⟨f,o,c,l⟩;refine .inl ((d.block b (zAl e a.vis.1.size) fun c=>?_).trans c);have:=(n b c.symm).1;omega;exact .inr (.inl ⟨f,o,c,g _ _ _ l⟩);exact .inr (.inr ⟨f,o,c,g _ _ _ l⟩);have:=(n b c.symm).1;omega
def zR {f w w'} (i:VisF f w w') (k:∀b e,f b->w.heap[b]?=some e->e.isCells=true):KeepsOthers w w':=by
 refine ⟨i.size,fun b e c d=>?_⟩;by_cases g:f b
 · rw [k b e g c] at d;cases d
 · have l:b < w.heap.size:=(zAh.1 c).1;rcases i.block b l g with a |⟨j,m,a,_⟩|⟨j,m,a,_⟩;exact a.trans c
   · unfold Bk at a;rw [c] at a;injection a with a;subst a;cases d
   · unfold Bk at a;rw [c] at a;injection a with a;subst a;cases d
def tF (q gl c G ab a8 ar B aK r z) (ci:iN aK=r) (bl:r.length=z) (w) (m:LvW w q gl c) (Y:c.length=G+1) (cp:G<=900) (bj:∀I∈c,I < 257) (bG:Rd w B 1 ab a8 (aK.map slV)) (bL:∀aj∈aK,Rd w B 1 aj.A aj.n (aj.l.map bv)) (cV:B<=w.heap.size) (d4:a8<=1000000) (d5:z<=1000000):
 Calls prog 62 #[gl,.slice ab a8 ar] w fun d w'=>d=.returned (.tuple #[.int .i64 (((iI c r).1:Nat):Int),.int .i64 (((iI c r).2:Nat):Int)])/\VB q w w':=by
 refine (callsIn_wide (n:=6)).1 ?_;refine callsIn_of_wp_marks func62 rfl trivial ?_ rfl;simp only [ntmps62,List.size_toArray,zCg,List.length_nil,Nat.reduceAdd,Nat.reduceSub,Array.replicate_succ,Array.replicate_zero,List.push_toArray,List.append_toArray,List.nil_append,List.cons_append];refine wpIn_wide.2 ?_;have d1:=m.lt;obtain ⟨b9,c2,c6,c7⟩:=hqq4 m bj bG bL;clear m bj bG bL;go_wp2_with fail;have aE:Below w.heap.size w (w.alloc (.cells #[gl] 48)):=bR.alloc nL _;refine (cD q gl c G _ (b9.out.vis (kc aE)) Y oM).mono ?_;rintro d w' ⟨rfl,rfl⟩;have N:IntKind.i64.wrap ((G:Int)+1)=((G+1:Nat):Int):=by rw [wI0];omega
 obtain ⟨a9,bF⟩:=eqx (G+1);have au:(G:Int)+1=(a9:Int):=oM;have ay:=ke w 48 #[gl];obtain ⟨a4,aY⟩:=eqx w.heap.size;rw [aY] at ay;rw [aY];generalize w.alloc (.cells #[gl] 48)=w1 at aE ay⊢;obtain ⟨aR,aM,c5,bf⟩:=hqq4 aE ay bF Y;clear aE ay bF Y aY;go_wp2_with fail;have O:=(ke w1 3 #[o0]).alloc (.cells #[(a9:Int)] 3);have K:=ke (w1.alloc (.cells #[o0] 3)) 3 #[(a9:Int)];rw [sZ0] at K;have aw:Below w1.heap.size w1 ((w1.alloc (.cells #[o0] 3)).alloc (.cells #[(a9:Int)] 3)):=(bR.alloc nL _).alloc (by simp) _;obtain ⟨j,ag⟩:=eqx w1.heap.size;rw [ag] at O K;rw [ag];generalize (w1.alloc (.cells #[o0] 3)).alloc (.cells #[(a9:Int)] 3)=a0 at O K aw⊢;have ah:=aR.out.trans (aw.mono aR.out.size);have bp:=aM.out.below aw aM.out.lt;have co:w.heap.size<=j:=by rw [<-ag];exact aR.out.size
 have d0:a4 < j:=by rw [<-ag];exact aM.out.lt
 have br:=nG ab a8 ar B aK r z ci bl a0 (c6.out.keep fun b7 E=>ah.cell oM) (fun aj b4=>(c7.out aj b4).keep fun b7 E=>ah.cell oM) (by have:=ah.size;omega) oM oM;obtain ⟨J,M,ap,an⟩:=hqq4 O K ah bp;clear O K aw ah bp ag N au;refine br.mono ?_;clear br;rintro d aa ⟨L,X,rfl,bC,S⟩;obtain ⟨be,R⟩:=hqq2 bC S;clear bC S;go_wp2_with fail;refine (aB9 L z X aa).mono ?_;rintro d a1 ⟨rfl,aF⟩;have az:=ke aa 22 #[.slice L z X];rw [<-aF] at az;have U:Below aa.heap.size aa a1:=aF ▸bR.alloc nL _;have d6:a1.heap.size=aa.heap.size+1:=by rw [aF];simp
 obtain ⟨gs,aB⟩:=eqx aa.heap.size;rw [aB] at az;rw [aB];have cy:=lhd aB;clear aF aB;have bB:=(J.out.below R.out J.out.lt).below U (zAl J.out.lt R.out.size);have bz:=(M.out.below R.out M.out.lt).below U (zAl M.out.lt R.out.size);have bq:=(an.out.below R.out an.out.lt).below U (zAl an.out.lt R.out.size);have bM:Below w.heap.size w a1:=(ap.out.trans (R.out.mono ap.out.size)).trans (U.mono (by have:=ap.out.size;have:=R.out.size;omega));have bE:=be.out.below U;obtain ⟨bd,aN,bb,aq,ao,a2⟩:=hqq6 bB bz bq bM bE az;clear bB bz bq bM bE az U J M ap an be;go_wp2_with fail;obtain ⟨C,S⟩:∃C,(∀b aJ,L=some ⟨b,aJ,none⟩->0 < z->b=C)/\∃v y,Bk a1 C v y/\v∈ [5,22]:=by rcases ao.out.own.2 with ⟨d,cf⟩|⟨aV,cd,ce,d,_,bx,_⟩;exact ⟨gs,fun b aJ _ av=>by omega,_,_,a2.out,by simp⟩;injection d with d;exact ⟨aV,fun b aJ m _=>by rw [d] at m;injection m with m;injection m with m _;exact m.symm,_,_,bx,by simp⟩
 have aW:0 < z->L=some ⟨C,0,none⟩:=by
  intro av;rcases ao.out.own.2 with ⟨d,cf⟩|⟨aV,cd,ce,d,_,bx,_⟩;omega
  · injection d with d;rw [d,S.1 aV 0 d av]
 have bt:∀V,V < r.length->a1.cell? ⟨C,0+V,none⟩=some (.int .u8 ((r.getD V 0).toNat:Int)):=by intro V aD;have cs:=ao.out.rd;obtain ⟨b,aJ,d,_,cl⟩:=cs.2 oM;rw [aW oM] at d;injection d with d;injection d with N au;subst N au;refine cl V _ ?_;rw [zAf,zAa aD];simp [bv,zAb,zAa aD]
 have bH:SeqStopsK Fence.wide (6 - 1) prog 176 #[gs] (fun I:Nat×UInt8=>#[(I.1:Int),.int .u8 (I.2.toNat:Int)]) (KpB gs C) (fun bW=>bW=bkL r r.length) (fun _=>True) z a1:=by intro aI ca cb g bm cX cY cj av;have cm:=S.2;obtain ⟨v,y,af,aA⟩:=cm;exact aCa Fence.wide (6 - 1) trivial rfl oM aI gs C 0 X L r (fun m=>aW oM) oM ca cb (fun H I cc ac bg=>cj H I cc ac oM) g (by rw [bl];exact (a2.out.below bm a2.out.lt).cell 0) (fun V aD=>(bm.cell (p:=⟨C,0+V,none⟩) af.lt).trans (bt V aD)) av
 have bi:FInv w q gl a4 j gs C (.slice L z X) c [] a1:=⟨bd.out,by
  have:=aN.out;rw [show (([]:List (Nat×UInt8)).map (·.2)).foldl (nQ c) (0,c.length)=(0,c.length) from rfl,bf.out,c5.out];exact this,b9.out.vis (kc aq.out),bb.out,a2.out,S.2,kd aq.out⟩
 have d3:=a2.out.lt;have U:=S.2;obtain ⟨aL,aQ⟩:=hqq2 bi bH;have d2:=aN.out.lt;obtain ⟨d9,cC,bu,cn⟩:=U;have cZ:=bu.lt;clear bH bi bt aW S bu cn bd aN bb ao a2;refine (wpIn_wide (n:=6)).1 ?_
 refine wpIn_rangeFunc_ownF (F:=Fence.wide) (n:=6) rfl oM (gf:=176) (lb:=#[.pointer (some gs)]) rfl trivial (enters_of func176 kR rfl) aQ.out (fun m ai=>m.trans ai)
  (fun g aI cv d7 cp b1 _ _ b7 E=>World.cell?_of_block (World.putObj_heap_other (fun d=>by rcases E with E | E <;> omega))) bR (fun _=>rfl)
  (fun H g=>FInv w q gl a4 j gs C (.slice L z X) c H g) (fun _ _ _=>False) (FInv.own aq.out.size) (fun _ _ _ _ _ b4 _ _=>b4) aL.out
  (fun I=> { tmps:=#[.pointer (some gl),.slice ab a8 ar,.pointer (some a4),undef,.int .i64 0,.int .i64 0,.pointer (some j),.pointer (some ⟨j+1,0,none⟩),undef,.int .u8 (I.2.toNat:Int),.pointer (some gl),.bool false,.pointer (some gl),.int .i64 (G:Int),.int .i64 (a9:Int),.slice ab a8 ar,.slice L z X,.func (.func 176) #[] #[gs],.int .i64 (I.1:Int),.int .u8 (I.2.toNat:Int),undef,undef,undef,undef,undef,undef,undef,undef,undef,undef,undef,undef,undef,undef],defers:= [] }) ?assign ?body ?done ?stop
 case assign=>
  intro aI I g cz e
  gi_wp2
  exact e
 case body=>
  rintro aI H ⟨bO,x⟩ g s _;obtain ⟨gk,bT,bU,d8,bA,bN⟩:=s.lv;obtain ⟨a7,O⟩:=eqx (((H.map (·.2)).foldl (nQ c) (0,c.length)).1);obtain ⟨a6,K⟩:=eqx (((H.map (·.2)).foldl (nQ c) (0,c.length)).2);have aX:=aFR c (H.map (·.2)) (0,c.length) (zAp _) nL;rw [O,K] at aX;obtain ⟨Z,bn⟩:=eqx (cL c (x.toNat+1) a7);obtain ⟨W,t⟩:=eqx (cL c (x.toNat+1) a6);have b0:=s.lo;have aZ:=s.hi;rw [O] at b0;rw [K] at aZ;obtain ⟨aO,c9,J,M,c3,bc⟩:=hqq6 bA bN b0 aZ s.box aX;have am:Hid (cL c (x.toNat+1) a7=Z/\cL c (x.toNat+1) a6=W):=lhd ⟨bn,t⟩;have bZ:=lhd s;have c4:Hid (((H.map (·.2)).foldl (nQ c) (0,c.length))=(a7,a6)):=lhd (by rw [<-O,<-K]);clear bA bN b0 aZ aX bn t s O K aL aQ
  gi_wp2
  refine wpIn_region_any kR ?_;refine aDZ (fun ⟨_,_,m⟩=>m) (aIH kR) _ _ _ _ ?_;refine cB q 13 [21,22,23,24,25,26,27,28,29,20,30,31] (fun b=>b=j) 12 [0,1,2,3,4,5,6,7,8,9,10,12] (fun a0=>VB q g a0) (fun _ a0=>Bk a0 j 3 #[(Z:Int)]) [is gl,is gl,is gl,is gk,is (a7:Int),is (a6:Int),is (.int .u8 (x.toNat:Int)),is (.int .i64 ((x.toNat+1:Nat):Int)),is (.tuple #[(Z:Int),(W:Int)]),is (.tuple #[(Z:Int),(W:Int)]),is (Z:Int),is (W:Int),cJ] _ _ rfl dC kR kR kR (kd bR.drew) (fun _ _ m _ ai=>m.trans ai) (fun _ _ _ m ai=>ai.1.bk m dC dC) tA1 ?_ ?_
  · refine bJ ?_;refine sC3 (fun D u _ k _ _ P _ _ _ _ e=>?_) ?_
    · have a:=k rfl;have au:D (.tmp 2)=.pointer (some a4):=P 2 kR;replace a:VB q g u:=(by first|exact a|exact bD a);have a3:=(a.1.bk c3.out dC dC).cell 0;go_simp;exact e _ _ (aG vR) rfl
    refine sC3 (fun _ u _ k _ _ _ o _ _ _ e=>?_) ?_
    · have a:=k rfl;have cF:_=_:=o 0 21 kR rfl;replace a:VB q g u:=(by first|exact a|exact bD a);have a3:=(a.1.bk aO.out dC dC).cell 0;go_simp;exact e _ _ (aG vR) rfl
    refine sC3 (fun _ u _ k _ _ _ o _ _ _ e=>?_) ?_
    · have a:=k rfl;have cG:_=_:=o 1 22 kR rfl;replace a:VB q g u:=(by first|exact a|exact bD a);have a3:=(a.1.bk aO.out dC dC).cell 0;go_simp;exact e _ _ (aG vR) rfl
    refine sC3 (fun _ u _ k _ _ _ o _ _ _ e=>?_) ?_
    · have a:=k rfl;have cH:_=_:=o 2 23 kR rfl;replace a:VB q g u:=(by first|exact a|exact bD a);have a3:=(a.1.bk aO.out dC dC).cell 0;go_simp;exact e _ _ (aG vR) rfl
    refine sC3 (fun D u _ k _ _ P _ _ _ _ e=>?_) ?_
    · have a:=k rfl;have ch:D (.tmp 6)=.pointer (some j):=P 6 kR;replace a:VB q g u:=(by first|exact a|exact bD a);have a3:=(a.1.bk J.out dC dC).cell 0;go_simp;exact e _ _ (aG vR) rfl
    refine sC3 (fun D u _ k _ _ P _ _ _ _ e=>?_) ?_
    · have a:=k rfl;have cR:D (.tmp 7)=.pointer (some ⟨j+1,0,none⟩):=P 7 kR;replace a:VB q g u:=(by first|exact a|exact bD a);have a3:=(a.1.bk M.out dC dC).cell 0;go_simp;exact e _ _ (aG vR) rfl
    refine sC3 (fun D _ _ k _ _ P _ _ _ _ e=>?_) ?_
    · have a:=k rfl;have cS:D (.tmp 9)=.int .u8 (x.toNat:Int):=P 9 kR;go_simp;exact e _ _ (aG vR) rfl
    refine sC3 (fun _ u _ k _ _ _ o _ _ _ e=>?_) ?_
    · have a:=k rfl;have cN:_=_:=o 6 27 kR rfl;go_simp;refine (pN x u).mono ?_;rintro d cx ⟨rfl,ck⟩;exact e _ _ (aG (kd ck)) rfl
    refine sC3 (fun _ u _ k _ _ _ o _ _ _ e=>?_) ?_
    · have a:=k rfl;have cI:_=_:=o 3 24 kR rfl;have cK:_=_:=o 4 25 kR rfl;have cM:_=_:=o 5 26 kR rfl;have cO:_=_:=o 7 28 kR rfl;replace a:VB q g u:=(by first|exact a|exact bD a);go_simp;refine (yK q gk c a7 a6 (x.toNat+1) u (c9.out.vis a.1) (by have:=x.toNat_lt;omega) bc.out.1 bc.out.2 c2.out (by rw [bf.out];omega)).mono ?_;rintro d cx ⟨rfl,cu⟩;rw [am.out.1,am.out.2];exact e _ _ (aG cu) rfl
    refine sC3 (fun _ _ _ k _ _ _ o _ _ _ e=>?_) ?_
    · have a:=k rfl;have cP:_=_:=o 8 29 kR rfl;go_simp;exact e _ _ (aG vR) rfl
    refine sC3 (fun _ _ _ k _ _ _ o _ _ _ e=>?_) ?_
    · have a:=k rfl;have cE:_=_:=o 9 20 kR rfl;go_simp;exact e _ _ (aG vR) rfl
    refine pV3 9 20 ?_;refine sC3 (fun D u _ k _ _ P o _ _ _ e=>?_) ?_
    · have a:=k rfl;have ch:D (.tmp 6)=.pointer (some j):=P 6 kR;have cQ:_=_:=o 10 30 kR rfl;replace a:VB q g u:=(by first|exact a|exact bD a);have b6:=a.1.bk J.out dC dC;have a3:=b6.cell 0;have cU:=b6.frozen 0;go_simp;exact e (.bool true) _ (kK (VFB.put (F:=fun b=>b=j) (VFB.of_vb vR) (p:=j) (.inl rfl) _)) (b6.set 0 _)
    exact aC
  · intro D ak l ad o bo;replace ad:VFB q (fun b=>b=j) g ak:=fD ad;have cg:D (.tmp 31)=.int .i64 (W:Int):=o 11 31 dC rfl;obtain ⟨cw,bS⟩:=bo 12 dC;have bP:(fun _ a0=>Bk a0 j 3 #[(Z:Int)]) cw ak:=bS;clear bS bo;simp only [zqq];rw [cg];clear o;have aH:=ad.1.bk M.out dC dC (fun d=>by omega);have cA:=aH.cell 0;have cT:=aH.frozen 0;change wpAny prog Region.Mode.any _ _ (1+l) (bX 13 14) _ ak;rw [zCs 1 l];refine bQ (f:=l) (i:=13) kR ?_;refine bY rfl rfl ?_;generalize e:wpAny prog _ _ _ l _=K5;go_simp;subst e;refine bV kR ?_;have bw:((H++ [(bO,x)]).map (·.2)).foldl (nQ c) (0,c.length)=(Z,W):=(by rw [zAz,List.foldl_append,c4.out];show (cL c (x.toNat+1) a7,cL c (x.toNat+1) a6)=_;rw [am.out.1,am.out.2]);have b5:w.heap.size<=j:=co;have cr:j≠j+1:=oM;have bK:VFB q (fun b=>b=j∨b=j+1) g (ak.setCell ⟨j+1,0,none⟩ (.int .i64 (W:Int))):=(by exact VFB.put (ad.wider fun b d=>.inl d) (.inl (.inr rfl)) _);have bI:=bK.1;have s:=bZ.out;obtain ⟨v,y,af,aA⟩:=s.dat;have a5:v≠226/\v≠180/\v≠3:=by simp at aA;rcases aA with rfl | rfl <;> decide
    have ae:∀b v y,Bk g b v y->v≠226->v≠180->v≠3->Bk (ak.setCell ⟨j+1,0,none⟩ (.int .i64 (W:Int))) b v y:=fun b v y t ac bg bh=>bI.bk t ac bg (fun l=>by
        rcases l with l | l;subst l;exact bh (aP t J.out).1
        · subst l;exact bh (aP t M.out).1)
    have cq:=s.lv.visI ad.1 J.out bP;change KeepsOthers g _/\KpB gs C g _/\FInv w q gl a4 j gs C (.slice L z X) c (H++ [(bO,x)]) _;refine ⟨zR bI (fun b cv l b1=>?_),?_,?_,?_,?_,ae _ _ _ s.box dC dC dC,ae _ _ _ s.bs dC dC dC,⟨v,y,ae _ _ _ af a5.1 a5.2.1 a5.2.2,aA⟩,?_⟩;rcases l with l | l;subst l;have:=J.out;unfold Bk at this;rw [b1] at this;injection this with this;subst this;rfl;subst l;have:=M.out;unfold Bk at this;rw [b1] at this;injection this with this;subst this;rfl
    · intro b7 E;rcases E with E | E
      · have N:=(ae _ _ _ s.bs dC dC dC).trans s.bs.symm;rw [<-E] at N;exact World.cell?_of_block N
      · have N:=(ae _ _ _ af a5.1 a5.2.1 a5.2.2).trans af.symm;rw [<-E] at N;exact World.cell?_of_block N
    rw [bw];exact bP.far (p:=⟨j+1,0,none⟩) cr _;rw [bw];exact aH.set 0 _;exact cq.sameT fun b v y ct t=>t.far (p:=⟨j+1,0,none⟩) (fun d=>by subst d;exact ct (aP t aH).1) _;have ac:VFB q (fun b=>b=j∨b=j+1) w g:=VFB.of_vb s.vis;exact (ac.trans bK).to_vb (fun b t l=>by rcases l with l | l <;> omega)
 case done=>
  rintro al bW g cW rfl s e;have aS:=s.lo.cell 0;have aT:=s.hi.cell 0;rw [aKu] at aS aT;change g.cell? j=some (.int .i64 (((iI c r).1:Nat):Int)) at aS;change g.cell? ⟨j+1,0,none⟩=some (.int .i64 (((iI c r).2:Nat):Int)) at aT;obtain ⟨bT,b2⟩:=eqx ((iI c r).1);obtain ⟨bU,b3⟩:=eqx ((iI c r).2);rw [b2] at aS;rw [b3] at aT;obtain ⟨c8,c0⟩:=hqq2 s.vis e;have ba:Hid ((iI c r).1=bT/\(iI c r).2=bU):=lhd ⟨b2,b3⟩;clear s aL aQ b2 b3 e;go_wp2_with fail;go_quiet (fail);go_wp2_with fail;have c1:(g.drewN nq).heap[al]?=some (.deferred (some [])):=c0.out;refine ⟨by simp,.inl ⟨_,_,rfl,run_takeDeferred c1,?_⟩⟩;refine ⟨_,results_tmp2 rfl _ _ _,by rw [ba.out.1,ba.out.2];rfl,?_⟩;have Q:=c8.out;have ax:∀b,b < w.heap.size->((g.drewN nq).putObj al (.deferred none)).heap[b]?=g.heap[b]?:=fun b t=>World.putObj_heap_other (by have:=aq.out.size;omega);have b5:w.heap.size<=((g.drewN nq).putObj al (.deferred none)).heap.size:=by have:=Q.1.size;simpa using this
  refine ⟨⟨Q.1.os,Q.1.tape,Q.1.output,b5,fun b t Y=>?_⟩,⟨Q.1.os,Q.1.tape,Q.1.output,b5,fun b t Y=>(ax b t).trans (Q.2.block b t Y)⟩⟩;rcases Q.1.block b t Y with d |⟨y,b8,d,aU⟩|⟨y,b8,d,aU⟩;exact .inl ((ax b t).trans d);exact .inr (.inl ⟨y,b8,d,(ax b t).trans aU⟩);exact .inr (.inr ⟨y,b8,d,(ax b t).trans aU⟩)
 case stop=>intro al x H g _ _ m _;exact m.elim
end
section
def aCy {a d l} (c:IsSuf a d) (f:EndOk a l) (b):iI (aH a d) b=(Nq a false (dI b),Nq a true (dI b)):=by
 have j:(aH a d).length=a.length:=by rw [bW,c.len]
 unfold iI;rw [j]
 induction b with
 | nil=>
   obtain ⟨g,i⟩:=aLz a;show (0,a.length)=(Nq a false [],Nq a true []);rw [g,i]
 | cons e b k=>
   rw [List.reverse_cons,List.foldl_append,k];show (cL _ (e.toNat+1) (Nq a false (dI b)),cL _ (e.toNat+1) (Nq a true (dI b)))=_;rw [aFK c f _ _ _ oM,aFK c f _ _ _ oM];rfl
def aGU {a c} (d:IsSuf (aJ a) c) (b):(iI (aH (aJ a) c) b).2 -(iI (aH (aJ a) c) b).1=occ (aJ a) (dI b):=by
 rw [aCy d (eP a),aFp];omega
end
section
open Go.RowKit
def aCc (w:World) (e:Nat) (b a:List UInt8) (f:Ending) (w':World):Prop:=
 ∃c d,f=.returned (.slice c (gR b a).length d)/\Made w' w.heap.size 3 1 c (gR b a).length d ((gR b a).map sv)/\VB e w w'
def aKG (m gl rate c C y S B z b) (U:iN z=b) (w) (ar:TpAt w m gl c rate) (a7:Rd w B 1 C y (z.map slV)) (a9:∀M∈z,Rd w B 1 M.A M.n (M.l.map bv)) (au:B<=w.heap.size) (aA:y<=1000000) (aD:b.length<=1000000):
 Calls prog 29 #[gl,.slice C y S] w (aCc w m c b):=by
 obtain ⟨aH,aw,x,aF,aG⟩:=info_parts gN;obtain ⟨f,gk,aq,aK,k,F,a8,x,aB⟩:=ar;obtain ⟨ai,ao⟩:=hqq2 a8 x;clear a8 x;have t:f.length=c.length+1:=by rw [k.len,aR]
 have u:=tF m gl _ c.length C y S B z b b.length U rfl w F.lvw (by rw [bW,t]) oM (dR (fB c)) a7 a9 au aA aD;rw [aCy k (eP c)] at u;have v:=aCq k b;have a0:=aKN (aJ c) true (dI b);rw [aR] at a0;have V:Nq (aJ c) false (dI b)<=Nq (aJ c) true (dI b):=by rw [aFp];omega
 have s:(gR c b).length=Nq (aJ c) true (dI b) - Nq (aJ c) false (dI b):=by rw [<-(aCx k b).length_eq,zAj,zAw,t];omega
 obtain ⟨a,G⟩:=eqx (Nq (aJ c) false (dI b));obtain ⟨e,E⟩:=eqx (Nq (aJ c) true (dI b));obtain ⟨aT,a6⟩:=eqx (gR c b);unfold aCc;rw [G,E] at u v s;rw [G] at V;rw [E] at a0 V;rw [a6] at v s⊢;obtain ⟨ac,aj,ak,O,Q⟩:=hqq5 F k v s t;clear a7 a9 F k v s t G E a6 U;go_enter func29,ntmps29;go_wp2_with fail;refine u.mono ?_;rintro r w1 ⟨rfl,aE⟩;clear u;go_wp2_with fail;go_loopw [7,8] (fun aL L wr=>∃d:Nat,d<=e - a/\L=.int .i64 ((a+d:Nat):Int)/\wr.ownsRow w.heap.size 3 1 aL d (((f.drop a).take d).map sv)/\VB m w wr) (fun _ L _=>e -(intOf L).toNat)
 case atStart=>exact ⟨0,zAp _,by simp,kj _ _ _ _,aE⟩
 case round=>
  obtain ⟨d,aP,rfl,i,o⟩:=hrel;by_cases ay:d < e - a
  · have az:((a+d:Nat):Int) < (e:Int):=oM;have ax:a+d < f.length:=(by rw [Q.out];omega);obtain ⟨A,K⟩:∃A,f[a+d]?=some A:=⟨_,zAa ax⟩;have a4:(f.drop a).take (d+1)=(f.drop a).take d++ [A]:=(by rw [zAv,zBt,K];rfl);have Z:=ac.out.vis o.1;obtain ⟨ah,q,ad,an,ag⟩:=hqq5 i o Z K a4;clear i o Z K a4;go_wp2_with fail;refine (aB1 m gl gk aq rate c f aK (a+d) A wr ad.out ai.out ao.out aj.out aB an.out).mono ?_;rintro r aM ⟨rfl,I⟩;have J:=q.out.trans I;have j:=I.1.own ah.out dC dC;have aa:=J.1.size;obtain ⟨am,P⟩:=hqq2 J j;clear I J j;go_wp2_with (at_builtin;refine bL _ rfl (.tmp 21) (.tmp 25) _ rfl w.heap.size 3 aH (.int .i64 0) 1 8 underlying39 aw x aF aG rfl dC _ d _ rfl P.out rfl rfl (by simp [Value.oneCell']) (by unfold maxLen;omega) oM aa ?_;intro aU ab aC X aQ av);have n:=aZ (kh w.heap.size aM) P.out X aa;have p:=VB.grow am.out n;have D:=lhd p;clear n p X av;go_roundw
    case rel=>exact ⟨d+1,by omega,by go_num,by rw [ag.out,zAz];exact aC,D.out⟩
    case measure=>simp [intOf];omega
  · obtain rfl:d=e - a:=oM;have az:¬((a+(e - a):Nat):Int) < (e:Int):=oM;have a3:((f.drop a).take (e - a)).map sv=(((f.drop a).take (e - a)).map fun aI:Nat=>(aI:Int)).map (Value.int .i64):=(by rw [zCh];rfl);rw [a3] at i;obtain ⟨N,R,rfl,H⟩:=aDr w.heap.size _ (e - a) _ wr i (by rw [zBc,zAj,zAw,Q.out];omega) oM;have a5:=i;rw [ak.out] at H;have a1:∀g,(Value.slice N (e - a) R).ownBlock=some g->w.heap.size<=g:=fun g W=>(a5.lt g W).1;obtain ⟨q,al,ae⟩:=hqq3 o H a1;clear i a5 o H a1 ay a3;go_wp2_with fail;refine al.out.mono ?_;rintro r ab ⟨rfl,j,Y⟩;have n:Below w.heap.size wr ab:=Y.to_below q.out.1.size (fun g W r=>by have:=ae.out g r;omega);have p:=VB.grow q.out n;rw [zCh] at j;obtain ⟨aN,aO,ap,a2⟩:=aS j;cases ap;obtain ⟨af,D⟩:=hqq2 a2 p;clear j Y n p a2;go_wp2_with fail;go_ret;exact ⟨N,R,by rw [O.out];rfl,by rw [O.out];exact af.out,D.out⟩
def TxtAt (w:World) (B gl:Nat) (a:List UInt8):Prop:=∃b,IsSuf (aJ a) b/\LvW w B gl (aH (aJ a) b)/\a.length<=127
def TxtAt.vis {w w' B gl a} (b:TxtAt w B gl a) (f:Vis w w'):TxtAt w' B gl a:=by
 obtain ⟨g,c,d,e⟩:=b;exact ⟨g,c,d.vis f,e⟩
def TxtAt.mono {w B B' gl a} (b:TxtAt w B gl a) (g:B'<=B):TxtAt w B' gl a:=by
 obtain ⟨l,c,⟨gk,i,j,k,d,f⟩,e⟩:=b;exact ⟨l,c,⟨gk,i,j,k,d,f.mono g⟩,e⟩
def TxtAt.le {w B gl a} (b:TxtAt w B gl a):a.length<=127:=by
 obtain ⟨f,d,e,c⟩:=b;exact c
def aBg {a b} (c:IsSuf (aJ a) b):(aH (aJ a) b).length=a.length+1:=by rw [bW,c.len,aR]
end
section
open Go.RowKit Go.Shelf
def aAj (g gl a k f d n B e b i) (C:iN e=b) (z:b.length=i) (w) (p:LvW w g gl a) (F:a.length=k+1) (D:k<=900) (q:∀I∈a,I < 257) (u:Rd w B 1 f d (e.map slV)) (v:∀m∈e,Rd w B 1 m.A m.n (m.l.map bv)) (y:B<=w.heap.size) (E:d<=1000000) (G:i<=1000000):
 Calls prog 28 #[gl,.slice f d n] w fun o w'=>o=.returned (.int .i64 (((iI a b).2 -(iI a b).1:Nat):Int))/\VB g w w':=by
 have t:=tF g gl a k f d n B e b i C z w p F D q u v y E G;have c:=aFR a b.reverse (0,a.length) (zAp _) nL;change (iI a b).1<=(iI a b).2/\(iI a b).2<=a.length at c;obtain ⟨x,s⟩:=eqx ((iI a b).1);obtain ⟨j,r⟩:=eqx ((iI a b).2);rw [s,r] at t c⊢;have K:=c.1;have L:j<=1000:=oM;have J:IntKind.i64.wrap ((j:Int) -(x:Int))=((j - x:Nat):Int):=by rw [wI0];omega
 clear p u v s r c q;go_enter func28,ntmps28;go_wp2_with fail;refine t.mono ?_;rintro o w' ⟨rfl,H⟩;go_wp2_with fail;go_ret;exact ⟨fR oM,H⟩
end
section
open Go.RowKit
def aBC (f gl d e b i B c a) (q:iN c=a) (w) (m:TxtAt w f gl d) (t:Rd w B 1 e b (c.map slV)) (u:∀g∈c,Rd w B 1 g.A g.n (g.l.map bv)) (p:B<=w.heap.size) (r:b<=1000000) (s:a.length<=1000000):
 Calls prog 28 #[gl,.slice e b i] w fun k w'=>k=.returned (.int .i64 ((occ (aJ d) (dI a):Nat):Int))/\VB f w w':=by
 obtain ⟨x,j,o,v⟩:=m;have:=aAj f gl _ d.length e b i B c a a.length q rfl w o (aBg j) oM (dR (fB d)) t u p r s;rw [aGU j] at this;exact this
def aEt (e b:List UInt8):e.isPrefixOf b=true↔∀(d:Nat) (c:UInt8),e[d]?=some c->b[d]?=some c:=by
 rw [List.isPrefixOf_iff_prefix];constructor;rintro ⟨i,rfl⟩ d c a;rw [zAn (by obtain ⟨j,_⟩:=zAc.1 a;exact j)];exact a
 · intro a
   induction e generalizing b with
   | nil=>exact List.nil_prefix
   | cons f e m=>
     cases b with
     | nil=>exact absurd (a 0 f rfl) (by simp)
     | cons n b=>
       have g:=a 0 f rfl;simp at g;subst g;obtain ⟨i,l⟩:=m b fun d c k=>by simpa using a (d+1) c (by simpa using k)
       exact ⟨i,by rw [List.cons_append,l]⟩
def aCL (g f e):tP (aJ g) (dI f) e=f.isPrefixOf (g.drop e):=by
 rw [Bool.eq_iff_iff,aEv,aEt];constructor;intro b d a c;rw [zBt];exact b d a c;intro b d a c;have:=b d a c;rw [zBt] at this;exact this
def aEM (b c):∀a,b.length+1 - c.length<=a->a<=b.length+1->fP b c a=dT b c:=by
 intro a e
 induction a with
 | zero=>
   intro _;have:b.length+1 - c.length=0:=oM;rw [dT,this]
 | succ a g=>
   intro i;rcases Nat.eq_or_lt_of_le e with d | d
   · rw [dT,d]
   · rw [tX,g oM oM];cases f:c.isPrefixOf (b.drop a) with
     | false=>rfl
     | true=>
       exfalso;have:=(List.isPrefixOf_iff_prefix.1 f).length_le;rw [zAw] at this;omega
def rQ (a b):gR a b=dT a b:=by
 rw [<-aEM a b (a.length+1) oM nL];unfold gR fP;congr 1;funext i;exact aCL a b i
def aEw (b a):(gR b a).length=occ (aJ b) (dI a):=by
 unfold gR occ;rw [List.countP_eq_length_filter,aR]
def Made.lf {w w' m B own own' a f c e d g} (b:Made w B a f d c e g) (t:LF m w w' own own') (q:a≠226) (r:a≠180) (s:∀i,B<=i->own i=0):Made w' B a f d c e g:=by
 have k:w'.ownsRow B a f (.slice d c e) c g:=by refine ⟨b.own.1,?_⟩;rcases b.own.2 with u |⟨j,n,o,v,l,x,y⟩;exact .inl u;exact .inr ⟨j,n,o,v,l,t.vis.bk x q r (fun p=>p (s j l)),y⟩
 exact ⟨k,Rd.of_own k,b.cap,b.max⟩
def aIq {w b g a d} (c:Bk w b g a) (e:a.size=d):Rd w w.heap.size 1 (some ⟨b,0,none⟩) d a.toList:=by
 refine ⟨by simp [e],fun _=>⟨_,0,rfl,c.lt,fun i j f=>?_⟩⟩;rw [zBi,c.cell];simpa using f
def StDone (w:World) (B:Nat) (own:Nat->Nat) (gs most rate:Nat) (T:List UInt8) (b:Told) (g:Ending) (w':World):Prop:=
 ∃c e d f own' i,g=.returned (.agg (gX b c e d f))/\StAt w' B own' gs i most rate T/\LFS B gs w w' own own'/\Made w' w.heap.size 5 1 c b.data.length e (b.data.map bv)/\Made w' w.heap.size 3 1 d b.places.length f (b.places.map nv)/\(∀a,c=some a->own' a.block=0)/\(∀a,d=some a->own' a.block=0)
section
variable {w w1 w' : World} {B gs gl most rate : Nat} {own own' : Nat -> Nat} {T : List UInt8}
def LFS.put (a:LFS B gs w w1 own own') {p} (c:w.heap.size<=p.block) (d:B<=p.block) (b):LFS B gs w (w1.setCell p b) own own':=
 ⟨a.old,VisF.put a.vis (.inr c) b,a.keep.setCell (.inr c) b⟩
def StAt.put (e:StAt w B own gs gl most rate T) {p} (f:Ap own gs p.block) (b):StAt (w.setCell p b) B own gs gl most rate T:=
 e.far (ka (F:=fun a=>a=p.block) (kf _ _) (.inl rfl) b) fun a c=>by have d:a=p.block:=c;rw [d];exact f
def jH {b i j a} {m l:_} {d g e c} (n:Made w d a 1 c g e l) (o:Bk w b j m) (q:a≠j) (k):Made (w.setCell ⟨b,i,none⟩ k) d a 1 c g e l:=
 oX n fun r s f=>f.far (p:=⟨b,i,none⟩) (Bk.ne f o q) k
def lP {x a G H I J b c u d v e k l g j} {s:Exit} (N:s=.ret∨s=.normal) (S:x.getD 4 undef=.pointer (some a)) (t:Bk w1 a 41 #[G,H,I,J]) (V:StAt w1 B own' gs gl most rate T) (O:LFS B gs w w1 own own') (W:B<=w.heap.size) (q:w.heap.size<=a) (o:Ap own' gs a) (M:g.length=u) (U:j.length=v) (Q:Made w1 w.heap.size 5 1 b u d (g.map bv)) (R:Made w1 w.heap.size 3 1 c v e (j.map nv)) (E:∀m,b=some m->own' m.block=0) (F:∀m,c=some m->own' m.block=0):
 bodyPost prog f15 (StDone w B own gs most rate T ⟨k,l,g,j⟩) s ⟨x, []⟩ ((((w1.setCell a (.int .i64 k)).setCell ⟨a,1,none⟩ (.int .i64 l)).setCell ⟨a,2,none⟩ (.slice b u d)).setCell ⟨a,3,none⟩ (.slice c v e)):=by
 subst M U;have b1:=t.set 0 (.int .i64 k);have b2:=b1.set 1 (.int .i64 l);have r:=b2.set 2 (.slice b g.length d);have K:=r.set 3 (.slice c j.length e);have n:B<=a:=oM;have A:=(((V.put (p:=a) o (.int .i64 k)).put (p:=⟨a,1,none⟩) o (.int .i64 l)).put (p:=⟨a,2,none⟩) o (.slice b g.length d)).put (p:=⟨a,3,none⟩) o (.slice c j.length e);have y:=(((O.put (p:=a) q n (.int .i64 k)).put (p:=⟨a,1,none⟩) q n (.int .i64 l)).put (p:=⟨a,2,none⟩) q n (.slice b g.length d)).put (p:=⟨a,3,none⟩) q n (.slice c j.length e);have C:=jH (i:=3) (jH (i:=2) (jH (i:=1) (jH (i:=0) Q t dC (.int .i64 k)) b1 dC (.int .i64 l)) b2 dC (.slice b g.length d)) r dC (.slice c j.length e);have D:=jH (i:=3) (jH (i:=2) (jH (i:=1) (jH (i:=0) R t dC (.int .i64 k)) b1 dC (.int .i64 l)) b2 dC (.slice b g.length d)) r dC (.slice c j.length e);have L:Bk ((((w1.setCell a (.int .i64 k)).setCell ⟨a,1,none⟩ (.int .i64 l)).setCell ⟨a,2,none⟩ (.slice b g.length d)).setCell ⟨a,3,none⟩ (.slice c j.length e)) a 41 (gX ⟨k,l,g,j⟩ b d c e):=by simpa [gX] using K
 have z:=results_cell_row (P:=prog) (fn:=f15) (p:=4) (ty:=41) rfl x _ a 41 (gX ⟨k,l,g,j⟩ b d c e) (0,0) _ S L underlying41 rfl kR;rcases N with rfl | rfl;exact bodyPost_ret z rfl ⟨b,d,c,e,own',gl,rfl,A,y,C,D,E,F⟩;exact bodyPost_end z rfl ⟨b,d,c,e,own',gl,rfl,A,y,C,D,E,F⟩
end
structure DoW (w W:World) (B:Nat) (own:Nat->Nat) (gs gl most rate:Nat) (t:List UInt8) (kind p n:Int) (A:Option Addr) (m c:Nat):Prop where
 low:Below w.heap.size w W
 box:Bk W w.heap.size 44 #[(kind:Int),(p:Int),(n:Int),.slice A m c]
 res:Bk W (w.heap.size+1) 41 #[o0,o0,(),()]
 st:StAt W B own gs gl most rate t
 ap:Ap own gs (w.heap.size+1)
 sz:W.heap.size=w.heap.size+2
 fr:∀b,w.heap.size<=b->own b=0
 bs:B<=w.heap.size
def DoW.mk' {w B own gs gl most rate k} (e i g b f c) (a:StAt w B own gs gl most rate k):
 DoW w ((w.alloc (.cells #[(e:Int),(i:Int),(g:Int),.slice b f c] 44)).alloc (.cells #[o0,o0,(),()] 41)) B own gs gl most rate k e i g b f c:=by
 have d:Below w.heap.size w ((w.alloc (.cells #[(e:Int),(i:Int),(g:Int),.slice b f c] 44)).alloc (.cells #[o0,o0,(),()] 41)):=(bR.alloc nL _).alloc (by simp) _;have j:=ke (w.alloc (.cells #[(e:Int),(i:Int),(g:Int),.slice b f c] 44)) 41 #[o0,o0,(),()];rw [sZ0] at j;exact ⟨d,(ke w _ _).alloc _,j,a.vb (kc d),⟨a.fresh oM,by have:=a.blk.lt;omega⟩,by rw [sZ0,sZ0],fun l d=>a.fresh d,a.size⟩
def aAw {w B own gs gl most rate g i} (c a b) {d:Exit} (o:StAt w B own gs gl most rate g) (q:d=.ret∨d=.normal) (r:i.getD 4 undef=.pointer (some ⟨w.heap.size+1,0,none⟩)):
 bodyPost prog f15 (StDone w B own gs most rate g ⟨a,b, [], []⟩) d ⟨i, []⟩ ((w.alloc (.cells c 44)).alloc (.cells #[(a:Int),(b:Int),(),()] 41)):=by
 have j:Below w.heap.size w ((w.alloc (.cells c 44)).alloc (.cells #[(a:Int),(b:Int),(),()] 41)):=(bR.alloc nL _).alloc (by simp) _;have k:=ke (w.alloc (.cells c 44)) 41 #[(a:Int),(b:Int),(),()];rw [sZ0] at k;have l:=results_cell_row (P:=prog) (fn:=f15) (p:=4) (ty:=41) rfl i _ (w.heap.size+1) 41 (gX ⟨a,b, [], []⟩ none 0 none 0) (0,0) _ r k underlying41 rfl kR;have m:StDone w B own gs most rate g ⟨a,b, [], []⟩ (.returned (.agg (gX ⟨a,b, [], []⟩ none 0 none 0))) ((w.alloc (.cells c 44)).alloc (.cells #[(a:Int),(b:Int),(),()] 41)):=
  ⟨none,0,none,0,own,gl,rfl,o.vb (kc j),LFS.of_below B gs own j,aM _ _ _,aM _ _ _,(fun n e=>by cases e),(fun n e=>by cases e)⟩
 rcases q with rfl | rfl;exact bodyPost_ret l rfl m;exact bodyPost_end l rfl m
def fI (B own gs gl most rate y o d m l g k i p w) (r:StAt w B own gs gl most rate y) (G:d=1∨d=2∨d=3) (u:∀e,StAt e B own gs gl most rate y->LFS B gs w e own own->Calls prog 25 #[gs,.agg #[(d:Int),(m:Int),(l:Int),.slice g k i]] e fun q w'=>q=.returned (.int .i64 p)/\∃own',StAt w' B own' gs gl most rate o/\LFS B gs e w' own own'):
 Calls prog 15 #[gs,aU d m l g k i] w (StDone w B own gs most rate o ⟨p,0, [], []⟩):=by
 have c:=DoW.mk' d m l g k i r;have t:=u _ c.st (LFS.of_below B gs own c.low);have H:=c.box.cell 0;have I:=c.box.cell 1;have J:=c.box.cell 2;have K:=c.box.cell 3;obtain ⟨b,n⟩:=hqq2 c t;clear c t u r;unfold aU;rcases G with rfl | rfl | rfl
 all_goals
  go_enter func15,ntmps15;go_wp2_with fail;refine n.out.mono ?_;rintro q w1 ⟨rfl,own',x,f⟩;have a:=f.bk b.out.res b.out.ap.col b.out.ap.ne dC dC;have s:=b.out.ap.step f b.out.res.lt;have v:=(LFS.of_below B gs own b.out.low).trans f;have A:=lhd b.out.bs;have P:=a.cell 0;have Q:=a.cell 1;have R:=a.cell 2;have S:=a.cell 3;have L:=a.frozen 0;have M:=a.frozen 1;have N:=a.frozen 2;have O:=a.frozen 3;obtain ⟨E,D,C,z⟩:=hqq4 a x v s;clear a x v f s n b;go_wp2_with fail;exact lP (.inl rfl) rfl E.out D.out C.out A.out oM z.out rfl rfl (aM _ _ _) (aM _ _ _) (fun F j=>by cases j) (fun F j=>by cases j)
def aDp (B own gs gl most rate e c k j d i f w) (b:StAt w B own gs gl most rate c) (n:c.length=e):
 Calls prog 15 #[gs,aU 4 k j d i f] w (StDone w B own gs most rate c ⟨0,(e:Int), [], []⟩):=by
 have a:=DoW.mk' 4 k j d i f b;have g:=a.st.llen n;have o:=a.box.cell 0;have z:=a.st.blk.cell 0;have u:=a.res.cell 0;have v:=a.res.cell 1;have x:=a.res.cell 2;have y:=a.res.cell 3;have q:=a.res.frozen 0;have r:=a.res.frozen 1;have s:=a.res.frozen 2;have t:=a.res.frozen 3;obtain ⟨l,m⟩:=hqq2 b g;clear a g b;unfold aU;go_enter func15,ntmps15;go_wp2_with fail;refine m.out.mono ?_;rintro p w1 ⟨rfl,rfl⟩;go_wp2_with fail;exact aAw _ _ _ l.out (.inl rfl) rfl
def aDq (B own gs gl most rate l a k j f i g w) (d:StAt w B own gs gl most rate l) (c:∀e:Int,1<=e->e<=8->a≠e):
 Calls prog 15 #[gs,aU a k j f i g] w (StDone w B own gs most rate l ⟨1,0, [], []⟩):=by
 have b:=DoW.mk' a k j f i g d;have n:=b.box.cell 0;have s:=b.res.cell 0;have t:=b.res.cell 1;have u:=b.res.cell 2;have v:=b.res.cell 3;have o:=b.res.frozen 0;have p:=b.res.frozen 1;have q:=b.res.frozen 2;have r:=b.res.frozen 3;have x:(a==1)=false:=zCb.2 (c 1 dC dC);have y:(a==2)=false:=zCb.2 (c 2 dC dC);have z:(a==3)=false:=zCb.2 (c 3 dC dC);have A:(a==4)=false:=zCb.2 (c 4 dC dC);have C:(a==5)=false:=zCb.2 (c 5 dC dC);have D:(a==6)=false:=zCb.2 (c 6 dC dC);have E:(a==7)=false:=zCb.2 (c 7 dC dC);have F:(a==8)=false:=zCb.2 (c 8 dC dC);have m:=lhd d;clear b d c;unfold aU;go_enter func15,ntmps15;go_wp2_with fail;exact aAw _ _ _ m.out (.inl rfl) rfl
def yV (B own gs gl most rate b I H g G i w) (p:StAt w B own gs gl most rate b):
 Calls prog 15 #[gs,aU 8 I H g G i] w (StDone w B own gs most rate b ⟨0,0, [], []⟩):=by
 obtain ⟨c,f⟩:∃c,IsSuf (aJ b) c:=by obtain ⟨c,gk,Z,a4,f,_⟩:=p.tp;exact ⟨c,f⟩
 have j:=DoW.mk' 8 I H g G i p;have m:=aE9 B own gs gl most rate b c _ j.st f;unfold iQ at m;obtain ⟨R,r⟩:=eqx ((gI (aH (aJ b) c) c most rate b.length).length);rw [r] at m;have y:=fun g i w1 (e:StAt w1 B own gs gl most rate b)=>aFb B own gs gl most rate most rate g R i b b c w1 e f e.n127 e.r1 e.r2 e.len e.max r;have S:=j.box.cell 0;obtain ⟨d,v,s⟩:=hqq3 j m y;clear j m y p r f;unfold aU;go_enter func15,ntmps15;go_wp2_with fail;refine v.out.mono ?_;rintro Q w1 ⟨J,P,rfl,l,n⟩;have E:=d.out.st.vb n.1;have C:=(LFS.of_below B gs own d.out.low).trans (LFS.of_vb gs own n);have D:=n.1.bk d.out.res dC dC;have z:=s.out J P w1 E l.rd l.cap l.max;obtain ⟨t,u,o⟩:=hqq3 z C D;clear E C D z l n v s;go_wp2_with fail;refine t.out.mono ?_;rintro Q a5 ⟨rfl,own',Y,F,k⟩;have a:=k.bk o.out d.out.ap.col d.out.ap.ne dC dC;have x:=d.out.ap.step k o.out.lt;have A:=u.out.trans k;have a0:=a.cell 0;have a1:=a.cell 1;have a2:=a.cell 2;have a3:=a.cell 3;have U:=a.frozen 0;have V:=a.frozen 1;have W:=a.frozen 2;have X:=a.frozen 3;obtain ⟨N,M,L,K⟩:=hqq4 a F A x;clear a F A k x t u o;go_wp2_with fail;exact lP (.inl rfl) rfl N.out M.out L.out d.out.bs oM K.out rfl rfl (aM _ _ _) (aM _ _ _) (fun O q=>by cases q) (fun O q=>by cases q)
def aBR (B gl rate a p b d w) (f:TpAt w B gl p rate) (u:p.length=a) (g:dL a b d=false):
 Calls prog 27 #[gl,(b:Int),(d:Int)] w fun c w'=>c=.returned (.tuple #[(),(2:Int)])/\w=w':=by
 have m:Calls prog 26 #[gl] w fun c w'=>c=.returned (.int .i64 (a:Int))/\w=w':=by obtain ⟨A,gk,t,z,o,l,x,y,n⟩:=f;exact cD B gl _ a w l.lvw (by rw [bW,o.len,aR,u]) oM
 have n:a<=127:=by obtain ⟨A,gk,t,z,o,l,x,y,n⟩:=f;omega
 unfold dL at g;have v:=of_decide_eq_false g;have e:=lhd m;clear f m g;by_cases i:b < 0
 · have q:decide (b < 0)=true:=zBz i;go_enter func27,ntmps27;go_wp2_with fail;go_ret2;exact ⟨rfl,rfl⟩
 · have q:decide (b < 0)=false:=zBy i;by_cases j:d < 0
   · have r:decide (d < 0)=true:=zBz j;go_enter func27,ntmps27;go_wp2_with fail;go_ret2;exact ⟨rfl,rfl⟩
   · have r:decide (d < 0)=false:=zBy j;by_cases k:b > (a:Int)
     · have s:decide (b > (a:Int))=true:=zBz k;go_enter func27,ntmps27;go_wp2_with fail;refine e.out.mono ?_;rintro c w1 ⟨rfl,rfl⟩;go_wp2_with fail;go_ret2;exact ⟨rfl,rfl⟩
     · have s:decide (b > (a:Int))=false:=zBy k;have D:IntKind.i64.wrap ((a:Int) - b)=(a:Int) - b:=(by rw [wI0];omega);have C:decide (d > (a:Int) - b)=true:=zBz oM;clear v;go_enter func27,ntmps27;go_wp2_with fail;refine e.out.mono ?_;rintro c w1 ⟨rfl,rfl⟩;go_wp2_with fail;refine e.out.mono ?_;rintro c w1 ⟨rfl,rfl⟩;go_wp2_with fail;go_ret2;exact ⟨rfl,rfl⟩
def sU (B own gs gl most rate I t x A G C w) (D:StAt w B own gs gl most rate I) (l o e) (a6:l.length=e) (P:∀m,StAt m B own gs gl most rate I->LFS B gs w m own own->Calls prog 27 #[gl,(t:Int),(x:Int)] m fun L w'=>∃a b,L=.returned (.tuple #[.slice a e b,(o:Int)])/\Made w' m.heap.size 5 1 a e b (l.map bv)/\VB B m w'):
 Calls prog 15 #[gs,aU 5 t x A G C] w (StDone w B own gs most rate I ⟨o,0,l, []⟩):=by
 have s:=DoW.mk' 5 t x A G C D;have z:=fun f (v:VB B _ f)=>P f (s.st.vb v.1) ((LFS.of_below B gs own s.low).trans (LFS.of_vb gs own v));have aq:=D.blk.lt;have Z:=s.box.cell 0;have a0:=s.box.cell 1;have a1:=s.box.cell 2;have ac:=s.st.blk.cell 0;obtain ⟨n,J⟩:=hqq2 s z;clear s z D P;unfold aU;go_enter func15,ntmps15;go_wp2_with fail;generalize (w.alloc (.cells #[(5:Int),(t:Int),(x:Int),.slice A G C] 44)).alloc (.cells #[o0,o0,(),()] 41)=m at*
 clear Z a0 a1 ac;refine wp_region_any kR ?_;refine aO [34,35,36,37,38,39,40,41,42,33,43,44,5,6] (VB B) (Vs [is gs,is gs,is gs,is gl,is (.pointer (some ⟨w.heap.size,1,none⟩)),is (.int .i64 t),is (.pointer (some ⟨w.heap.size,2,none⟩)),is (.int .i64 x),fun g i=>∃a b,g=.tuple #[.slice a e b,(o:Int)]/\Made i w.heap.size 5 1 a e b (l.map bv),fun g i=>∃a b,g=.tuple #[.slice a e b,(o:Int)]/\Made i w.heap.size 5 1 a e b (l.map bv),fun g i=>∃a b,g=.slice a e b/\Made i w.heap.size 5 1 a e b (l.map bv),is (.int .i64 o),fun g i=>∃a b,g=.slice a e b/\Made i w.heap.size 5 1 a e b (l.map bv),is (.int .i64 o)]) _ _ rfl kR vR (fun _ _=>VisK.trans) (cS (by repeat' (first | exact jA _ _ | exact kM _ | exact fun _ _ _ ⟨a,b,a3,a4⟩ v=>⟨a,b,a3,v.1.made a4 dC dC⟩|(refine zAe.2 ⟨?_,?_⟩)|(intro t z;cases z)))) ?_ ?_
 · refine aK ?_;refine pH 0 (.pointer (some gs)) ?_;refine pV 0 34 ?_;refine pV 1 35 ?_;refine sC (fun _ f c _ _ _ d _ _ _ j=>?_) ?_
   · have ad:_=_:=d 2 36 kR rfl;replace c:(VB B) m f:=bD c;have a5:=c.1.bk n.out.st.blk dC dC;have K:=a5.cell 0;go_simp;exact j _ _ vR rfl
   refine pH 3 (.pointer (some w.heap.size)) ?_;refine sC (fun _ f c _ _ _ d _ _ _ j=>?_) ?_
   · have af:_=_:=d 4 38 kR rfl;replace c:(VB B) m f:=bD c;have F:=c.1.bk n.out.box dC dC;have K:=F.cell 1;go_simp;exact j _ _ vR rfl
   refine pH 3 (.pointer (some w.heap.size)) ?_;refine sC (fun _ f c _ _ _ d _ _ _ j=>?_) ?_
   · have ah:_=_:=d 6 40 kR rfl;replace c:(VB B) m f:=bD c;have F:=c.1.bk n.out.box dC dC;have K:=F.cell 2;go_simp;exact j _ _ vR rfl
   refine sC (fun _ f c _ _ _ d _ _ _ j=>?_) ?_
   · have ae:_=_:=d 3 37 kR rfl;have ag:_=_:=d 5 39 kR rfl;have ai:_=_:=d 7 41 kR rfl;replace c:(VB B) m f:=bD c;have a8:=c.1.size;go_simp;refine (J.out f c).mono ?_;rintro L ax ⟨a,b,rfl,y,a7⟩;exact j _ _ a7 ⟨a,b,rfl,⟨bN y.own (zAk n.out.low.size a8),y.rd,y.cap,y.max⟩⟩
   refine sC (fun p f _ _ _ _ d _ _ _ j=>?_) ?_
   · have a9:(fun g i=>∃a b,g=.tuple #[.slice a e b,(o:Int)]/\Made i w.heap.size 5 1 a e b (l.map bv)) (p (.tmp 42)) f:=d 8 42 kR rfl;obtain ⟨a,b,aj,q⟩:=a9;go_simp;exact j _ _ vR ⟨a,b,rfl,q⟩
   refine sC (fun p f _ _ _ _ d _ _ _ j=>?_) ?_
   · have H:(fun g i=>∃a b,g=.tuple #[.slice a e b,(o:Int)]/\Made i w.heap.size 5 1 a e b (l.map bv)) (p (.tmp 33)) f:=d 9 33 kR rfl;obtain ⟨a,b,a2,q⟩:=H;go_simp;exact j _ _ vR ⟨a,b,rfl,q⟩
   refine sC (fun p f _ _ _ _ d _ _ _ j=>?_) ?_
   · have H:(fun g i=>∃a b,g=.tuple #[.slice a e b,(o:Int)]/\Made i w.heap.size 5 1 a e b (l.map bv)) (p (.tmp 33)) f:=d 9 33 kR rfl;obtain ⟨a,b,a2,q⟩:=H;go_simp;exact j _ _ vR rfl
   refine sC (fun p f _ _ _ _ d _ _ _ j=>?_) ?_
   · have aa:(fun g i=>∃a b,g=.slice a e b/\Made i w.heap.size 5 1 a e b (l.map bv)) (p (.tmp 43)) f:=d 10 43 kR rfl;obtain ⟨a,b,ak,q⟩:=aa;go_simp;exact j _ _ vR ⟨a,b,rfl,q⟩
   refine pV 11 44 ?_;exact aC
 · intro p S c d;replace c:(VB B) m S:=bD c;have ab:(fun g i=>∃a b,g=.slice a e b/\Made i w.heap.size 5 1 a e b (l.map bv)) (p (.tmp 5)) S:=d 12 5 rfl;have N:p (.tmp 6)=.int .i64 o:=d 13 6 rfl;simp only [zqq];rw [N];clear d;obtain ⟨a,b,M,q⟩:=ab;rw [M];clear M N;have r:=c.1.bk n.out.res dC dC;have O:=(LFS.of_below B gs own n.out.low).trans (LFS.of_vb gs own c);have Q:=n.out.st.vb c.1;have R:∀u,a=some u->own u.block=0:=fun u E=>by subst E;exact n.out.fr _ (q.own.lt (k:=u.block) rfl).1
   have ar:=r.cell 0;have au:=r.cell 1;have av:=r.cell 2;have aw:=r.cell 3;have al:=r.frozen 0;have am:=r.frozen 1;have an:=r.frozen 2;have ao:=r.frozen 3;obtain ⟨Y,W,U,X,V⟩:=hqq5 r Q O R q;clear r Q O c R q J;go_wp2_with fail;exact lP (.inl rfl) rfl Y.out W.out U.out n.out.bs oM n.out.ap a6 rfl V.out (aM _ _ _) X.out (fun u E=>by cases E)
def zY (B own gs gl most rate p n t x k g m w) (q:StAt w B own gs gl most rate p) (C:ArgZ w B own gs k g n) (aA:g<=1000000):
 Calls prog 15 #[gs,aU 6 t x k g m] w (StDone w B own gs most rate p ⟨0,((dT p n).length:Int), [], []⟩):=by
 have r:=DoW.mk' 6 t x k g m q;have a5:n.length=g:=by simpa using C.1.1
 have J:=C.vis r.low;have az:=q.blk.lt;have E:∀b e,VB B ((w.alloc (.cells #[(6:Int),(t:Int),(x:Int),.slice k g m] 44)).alloc (.cells #[o0,o0,(),()] 41)) b->Bk b e 22 #[.slice k g m]->Calls prog 28 #[gl,.slice (some ⟨e,0,none⟩) 1 1] b fun H w'=>H=.returned (.int .i64 ((dT p n).length:Int))/\VB B b w':=fun b e O a6=>by
  have ab:TxtAt b B gl p:=by obtain ⟨ag,gk,ay,aH,ai,aj,aK,aL,ak⟩:=(r.st.vb O.1).tp;exact ⟨ag,ai,aj.lvw,ak⟩
  have a4:=(J.step (LFS.of_vb gs own O)).1;have:=aBC B gl p (some ⟨e,0,none⟩) 1 1 b.heap.size [(⟨k,g,m,n⟩:Sl)] n (by simp [iN]) b ab (aIq a6 rfl) (fun aI M=>by simp at M;subst M;exact a4) nL oM oM;rw [<-aEw,rQ] at this;exact this
 obtain ⟨z,P⟩:=eqx ((dT p n).length);rw [P] at E⊢;have Z:=r.box.cell 0;obtain ⟨o,S⟩:=hqq2 r E;clear r E q C J a5 P;unfold aU;go_enter func15,ntmps15;go_wp2_with fail;generalize (w.alloc (.cells #[(6:Int),(t:Int),(x:Int),.slice k g m] 44)).alloc (.cells #[o0,o0,(),()] 41)=W at*
 clear Z;refine wp_region_any kR ?_;refine cB B 9 [50,51,52,53,54,55,56,57,58] (fun _=>False) 8 [] (fun _=>True) (fun u _=>u=.agg #[o0,(z:Int),(),()]) [is gs,is gs,is gs,is gl,is (.pointer (some ⟨w.heap.size,3,none⟩)),is (.slice k g m),fun G F=>∃e,G=.slice (some ⟨e,0,none⟩) 1 1/\Bk F e 22 #[.slice k g m],is (z:Int),cJ] _ _ rfl dC kR kR kR (trivial) (fun _ _ _ _ _=>trivial) (fun _ _ _ q _=>q) (by repeat' (first | exact jA _ _ | exact kM _ | exact fun _ _ _ ⟨e,a2,a3⟩ ad=>⟨e,a2,ad.1.bk a3 dC dC (fun c=>c)⟩|(refine zAe.2 ⟨?_,?_⟩)|(intro t aa;cases aa))) ?_ ?_
 · refine bJ ?_;refine pH3 0 (.pointer (some gs)) ?_;refine pV3 0 50 ?_;refine pV3 1 51 ?_;refine sC3 (fun _ b a _ _ _ _ d _ _ _ j=>?_) ?_
   · replace a:VFB B (fun _=>False) W b:=fD a;have al:_=_:=d 2 52 kR rfl;have s:=a.to_vb (fun _ _ c=>c);have a8:=s.1.bk o.out.st.blk dC dC;have a0:=a8.cell 0;go_simp;exact j _ _ (aG vR) rfl
   refine pH3 3 (.pointer (some w.heap.size)) ?_;refine sC3 (fun _ b a _ _ _ _ d _ _ _ j=>?_) ?_
   · replace a:VFB B (fun _=>False) W b:=fD a;have an:_=_:=d 4 54 kR rfl;have s:=a.to_vb (fun _ _ c=>c);have a9:=s.1.bk o.out.box dC dC;have a0:=a9.cell 3;go_simp;exact j _ _ (aG vR) rfl
   refine sC3 (fun _ _ _ _ _ _ _ d _ _ _ j=>?_) ?_
   · have ao:_=_:=d 5 55 kR rfl;go_simp;exact j _ _ (aG (vR.alloc _)) ⟨_,rfl,ke _ _ _⟩
   refine sC3 (fun A b a _ _ _ _ d _ _ _ j=>?_) ?_
   · replace a:VFB B (fun _=>False) W b:=fD a;have am:_=_:=d 3 53 kR rfl;have ae:(fun G F=>∃e,G=.slice (some ⟨e,0,none⟩) 1 1/\Bk F e 22 #[.slice k g m]) (A (.tmp 56)) b:=d 6 56 kR rfl;have s:=a.to_vb (fun _ _ c=>c);obtain ⟨a1,aq,a7⟩:=ae;go_simp;refine (S.out b a1 s a7).mono ?_;rintro H aJ ⟨rfl,ac⟩;exact j _ _ (aG ac) rfl
   refine sC3 (fun _ _ _ _ _ _ _ d _ _ _ j=>?_) ?_
   · have ar:_=_:=d 7 57 kR rfl;go_simp;exact j _ _ (kK (VFB.of_vb vR)) rfl
   exact aC
 · intro A y c a d K;replace a:VFB B (fun _=>False) W y:=fD a;have Q:(fun u _=>u=.agg #[o0,(z:Int),(),()]) (A (.tmp 58)) y:=d 8 58 dC rfl;obtain ⟨ah,R⟩:=K 8 dC;have af:(fun u _=>u=.agg #[o0,(z:Int),(),()]) ah y:=R;clear R K;simp only [zqq];clear d;have I:=Q;rw [I];have v:=a.to_vb (fun _ _ c=>c);clear af Q I a;have l:=v.1.bk o.out.res dC dC;have N:=o.out.st.vb v.1;have L:=(LFS.of_below B gs own o.out.low).trans (LFS.of_vb gs own v);have aB:=l.cell 0;have aD:=l.cell 1;have aE:=l.cell 2;have aF:=l.cell 3;have au:=l.frozen 0;have av:=l.frozen 1;have aw:=l.frozen 2;have ax:=l.frozen 3;obtain ⟨X,V,U⟩:=hqq3 l N L;clear l N L v;change wpAny prog Region.Mode.any _ _ (1+c) (bX 9 10) _ y;rw [zCs 1 c];refine bQ (f:=c) (i:=9) kR ?_;refine bY rfl rfl ?_;generalize j:wpAny prog _ _ _ c _=K5;go_simp;subst j;refine bV kR ?_;go_wp2_with fail;exact lP (.inl rfl) rfl X.out V.out U.out o.out.bs oM o.out.ap rfl rfl (aM _ _ _) (aM _ _ _) (fun Y D=>by cases D) (fun Y D=>by cases D)
def yW (B own gs gl most rate q l A F j g o w) (G:StAt w B own gs gl most rate q) (J:ArgZ w B own gs j g l) (ay:g<=1000000):
 Calls prog 15 #[gs,aU 7 A F j g o] w (StDone w B own gs most rate q ⟨0,((dT q l).length:Int), [],dT q l⟩):=by
 have y:=DoW.mk' 7 A F j g o G;have a9:l.length=g:=by simpa using J.1.1
 have Q:=J.vis y.low;have ax:=G.blk.lt;have C:∀d f,VB B ((w.alloc (.cells #[(7:Int),(A:Int),(F:Int),.slice j g o] 44)).alloc (.cells #[o0,o0,(),()] 41)) d->Bk d f 22 #[.slice j g o]->Calls prog 29 #[gl,.slice (some ⟨f,0,none⟩) 1 1] d fun O w'=>∃a b,O=.returned (.slice a (dT q l).length b)/\Made w' d.heap.size 3 1 a (dT q l).length b ((dT q l).map nv)/\VB B d w':=fun d f X aa=>by have a8:=(Q.step (LFS.of_vb gs own X)).1;have:=aKG B gl rate q (some ⟨f,0,none⟩) 1 1 d.heap.size [(⟨j,g,o,l⟩:Sl)] l (by simp [iN]) d (y.st.vb X.1).tp (aIq aa rfl) (fun aE U=>by simp at U;subst U;exact a8) nL oM oM;unfold aCc at this;rw [rQ] at this;exact this
 obtain ⟨v,R⟩:=eqx (dT q l);rw [R] at C⊢;obtain ⟨r,u⟩:=eqx v.length;rw [u] at C⊢;have a5:=y.box.cell 0;obtain ⟨n,M,a2⟩:=hqq3 y C u;clear y C G J Q a9 R u;unfold aU;go_enter func15,ntmps15;go_wp2_with fail;generalize (w.alloc (.cells #[(7:Int),(A:Int),(F:Int),.slice j g o] 44)).alloc (.cells #[o0,o0,(),()] 41)=W at*
 clear a5;refine wp_region_any kR ?_;refine aO [61,62,63,64,65,66,67,68,7] (VB B) (Vs [is gs,is gs,is gs,is gl,is (.pointer (some ⟨w.heap.size,3,none⟩)),is (.slice j g o),fun L i=>∃f,L=.slice (some ⟨f,0,none⟩) 1 1/\Bk i f 22 #[.slice j g o],fun t i=>∃a b,t=.slice a r b/\Made i w.heap.size 3 1 a r b (v.map nv),fun t i=>∃a b,t=.slice a r b/\Made i w.heap.size 3 1 a r b (v.map nv)]) _ _ rfl kR vR (fun _ _=>VisK.trans) (cS (by repeat' (first | exact jA _ _ | exact kM _ | exact fun _ _ _ ⟨f,H,I⟩ E=>⟨f,H,E.1.bk I dC dC⟩| exact fun _ _ _ ⟨a,b,H,I⟩ E=>⟨a,b,H,E.1.made I dC dC⟩|(refine zAe.2 ⟨?_,?_⟩)|(intro A ae;cases ae)))) ?_ ?_
 · refine aK ?_;refine pH 0 (.pointer (some gs)) ?_;refine pV 0 61 ?_;refine pV 1 62 ?_;refine sC (fun _ d c _ _ _ e _ _ _ p=>?_) ?_
   · have ak:_=_:=e 2 63 kR rfl;replace c:(VB B) W d:=bD c;have ac:=c.1.bk n.out.st.blk dC dC;have a6:=ac.cell 0;go_simp;exact p _ _ vR rfl
   refine pH 3 (.pointer (some w.heap.size)) ?_;refine sC (fun _ d c _ _ _ e _ _ _ p=>?_) ?_
   · have am:_=_:=e 4 65 kR rfl;replace c:(VB B) W d:=bD c;have ad:=c.1.bk n.out.box dC dC;have a6:=ad.cell 3;go_simp;exact p _ _ vR rfl
   refine sC (fun _ _ _ _ _ _ e _ _ _ p=>?_) ?_
   · have an:_=_:=e 5 66 kR rfl;go_simp;exact p _ _ (vR.alloc _) ⟨_,rfl,ke _ _ _⟩
   refine sC (fun x d c _ _ _ e _ _ _ p=>?_) ?_
   · have al:_=_:=e 3 64 kR rfl;have ah:(fun L i=>∃f,L=.slice (some ⟨f,0,none⟩) 1 1/\Bk i f 22 #[.slice j g o]) (x (.tmp 67)) d:=e 6 67 kR rfl;replace c:(VB B) W d:=bD c;obtain ⟨a7,ao,ab⟩:=ah;have ag:=c.1.size;go_simp;refine (M.out d a7 c ab).mono ?_;rintro O aF ⟨a,b,rfl,D,af⟩;exact p _ _ af ⟨a,b,rfl,⟨bN D.own (zAk n.out.low.size ag),D.rd,D.cap,D.max⟩⟩
   refine sC (fun x d _ _ _ _ e _ _ _ p=>?_) ?_
   · have ai:(fun t i=>∃a b,t=.slice a r b/\Made i w.heap.size 3 1 a r b (v.map nv)) (x (.tmp 68)) d:=e 7 68 kR rfl;obtain ⟨a,b,aq,z⟩:=ai;go_simp;exact p _ _ vR ⟨a,b,rfl,z⟩
   exact aC
 · intro x Y c e;replace c:(VB B) W Y:=bD c;have aj:(fun t i=>∃a b,t=.slice a r b/\Made i w.heap.size 3 1 a r b (v.map nv)) (x (.tmp 7)) Y:=e 8 7 rfl;simp only [zqq];clear e;obtain ⟨a,b,P,z⟩:=aj;rw [P];clear P;have m:=c.1.bk n.out.res dC dC;have S:=(LFS.of_below B gs own n.out.low).trans (LFS.of_vb gs own c);have V:=n.out.st.vb c.1;have u:∀s,a=some s->own s.block=0:=fun s K=>by subst K;have:=(z.own.lt (k:=s.block) rfl).1;by_cases N:own s.block=0;exact N;exact absurd (n.out.fr s.block this) N
   have az:=m.cell 0;have aA:=m.cell 1;have aB:=m.cell 2;have aD:=m.cell 3;have ar:=m.frozen 0;have au:=m.frozen 1;have av:=m.frozen 2;have aw:=m.frozen 3;obtain ⟨a4,a1,Z,a3,a0⟩:=hqq5 m V S u z;clear m V S c u z M;go_wp2_with fail;exact lP (.inl rfl) rfl a4.out a1.out Z.out n.out.bs oM n.out.ap rfl a2.out (aM _ _ _) a0.out (fun s K=>by cases K) a3.out
def aHn (B:Nat) (own) (gs gl most rate:Nat) (a j q x) (m f:Int) (e) (b g:Nat) (w) (d:doM a (most:Int) 1 m f j=(q,x)) (o:StAt w B own gs gl most rate a) (u:ArgZ w B own gs e b j) (H:b<=1000000) (C:TabW w) (z:1 < B) (t:q.length<=127):
 Calls prog 15 #[gs,aU 1 m f e b g] w (StDone w B own gs most rate q x):=by
 have A:j.length=b:=by simpa using u.1.1
 have I:∀c,LFS B gs w c own own->TabW c:=fun c l=>C.below (l.below o.size) z;unfold doM at d;rw [zBx rfl] at d;cases p:dL a.length m 0 with
 | false=>
   rw [zBx p] at d;cases d;exact fI B own gs gl most rate a a 1 m f e b g 2 w o (.inl rfl) fun c i l=>(jY B own gs gl most rate _ a 1 m f e b g c i rfl (by simpa [oN] using p)).mono fun y w' ⟨s,n⟩=>⟨s,own,i.vb (kc n),LFS.of_below B gs own n⟩
 | true=>
   rw [zBw (by rw [p];decide)] at d;obtain ⟨r,E,rfl,G,F⟩:=fS p;by_cases v:(most:Int) -(a.length:Int) < (j.length:Int);rw [zBx v] at d;cases d;exact fI B own gs gl most rate a a 1 _ f e b g 3 w o (.inl rfl) fun c i l=>(yT B own gs gl most rate _ a r f e b g c i rfl oM oM).mono fun y w' ⟨s,n⟩=>⟨s,own,i.vb n.1,LFS.of_vb gs own n⟩;rw [zBw v] at d;cases d;rw [zBr] at t⊢;have D:=xN a j (k:=r) oM;exact fI B own gs gl most rate a _ 1 _ f e b g 0 w o (.inl rfl) fun c i l=>zW B own gs gl most rate _ a j r f e b g c i rfl (u.step l) oM oM (by rw [<-A,<-D];exact t)
def aHm (B:Nat) (own) (gs gl most rate:Nat) (c m n q) (i g:Int) (e) (b f:Nat) (w) (d:doM c (most:Int) 2 i g m=(n,q)) (o:StAt w B own gs gl most rate c) (u:ArgZ w B own gs e b m) (E:b<=1000000) (v:TabW w) (p:1 < B) (C:n.length<=127):
 Calls prog 15 #[gs,aU 2 i g e b f] w (StDone w B own gs most rate n q):=by
 have D:m.length=b:=by simpa using u.1.1
 have y:∀a,LFS B gs w a own own->TabW a:=fun a l=>v.below (l.below o.size) p;unfold doM at d;rw [zBw dC] at d;rw [zBx rfl] at d;cases j:dL c.length i g with
 | false=>
   rw [zBx j] at d;cases d;exact fI B own gs gl most rate c c 2 i g e b f 2 w o (.inr (.inl rfl)) fun a k l=>(jY B own gs gl most rate _ c 2 i g e b f a k rfl (by simpa [oN] using j)).mono fun A w' ⟨z,r⟩=>⟨z,own,k.vb (kc r),LFS.of_below B gs own r⟩
 | true=>
   rw [zBw (by rw [j];decide)] at d;cases d;obtain ⟨s,t,rfl,rfl,x⟩:=fS j;rw [zBr,zBr];exact fI B own gs gl most rate c _ 2 _ _ e b f 0 w o (.inr (.inl rfl)) fun a k l=>zX B own gs gl most rate _ c s t e b f a k (y a l) p rfl x
def aHl (B:Nat) (own) (gs gl most rate:Nat) (d g n r) (k f:Int) (e) (c i:Nat) (w) (a:doM d (most:Int) 3 k f g=(n,r)) (o:StAt w B own gs gl most rate d) (q:ArgZ w B own gs e c g) (F:c<=1000000) (v:TabW w) (p:1 < B) (C:n.length<=127):
 Calls prog 15 #[gs,aU 3 k f e c i] w (StDone w B own gs most rate n r):=by
 have u:g.length=c:=by simpa using q.1.1
 have x:∀b,LFS B gs w b own own->TabW b:=fun b j=>v.below (j.below o.size) p;unfold doM at a;rw [zBw dC] at a;rw [zBw dC] at a;rw [zBw dC] at a;rw [zBx rfl] at a;cases l:dL d.length k (g.length:Int) with
 | false=>
   rw [zBx l] at a;cases a;exact fI B own gs gl most rate d d 3 k f e c i 2 w o (.inr (.inr rfl)) fun b m j=>(jY B own gs gl most rate _ d 3 k f e c i b m rfl (by simpa [oN,u] using l)).mono fun A w' ⟨y,s⟩=>⟨y,own,m.vb (kc s),LFS.of_below B gs own s⟩
 | true=>
   rw [zBw (by rw [l];decide)] at a;cases a;obtain ⟨t,z,rfl,E,D⟩:=fS l;rw [zBr];exact fI B own gs gl most rate d _ 3 _ f e c i 0 w o (.inr (.inr rfl)) fun b m j=>zV B own gs gl most rate _ d g t f e c i b m (x b j) p rfl (q.step j) oM
def aHk (B:Nat) (own) (gs gl most rate:Nat) (c k l s) (f e:Int) (g) (d n:Nat) (w) (b:doM c (most:Int) 5 f e k=(l,s)) (o:StAt w B own gs gl most rate c) (t:ArgZ w B own gs g d k) (E:d<=1000000) (u:TabW w) (r:1 < B) (C:l.length<=127):
 Calls prog 15 #[gs,aU 5 f e g d n] w (StDone w B own gs most rate l s):=by
 have D:k.length=d:=by simpa using t.1.1
 have x:∀a,LFS B gs w a own own->TabW a:=fun a j=>u.below (j.below o.size) r;unfold doM at b;rw [zBw dC] at b;rw [zBw dC] at b;rw [zBx rfl] at b;cases i:dL c.length f e with
 | false=>
   rw [zBx i] at b;cases b;exact sU B own gs gl most rate c f e g d n w o [] 2 0 rfl fun a p j=>(aBR B gl rate _ c f e a p.tp rfl i).mono fun A w' ⟨y,z⟩=>by subst z;exact ⟨none,0,y,aM _ _ _,VisK.refl _ _⟩
 | true=>
   rw [zBw (by rw [i];decide)] at b;cases b;obtain ⟨q,m,rfl,rfl,v⟩:=fS i;rw [zBr,zBr];exact sU B own gs gl most rate c _ _ g d n w o ((c.drop q).take m) 0 m (by rw [zAj,zAw];omega) fun a p j=>aHs B gl rate c q m a p.tp (x a j) r v
def aHj (B:Nat) (own) (gs gl most rate:Nat) (j c e n) (i g:Int) (d) (b k:Nat) (w) (a:doM j (most:Int) 7 i g c=(e,n)) (l:StAt w B own gs gl most rate j) (m:ArgZ w B own gs d b c) (q:b<=1000000) (p:TabW w) (o:1 < B) (s:e.length<=127):
 Calls prog 15 #[gs,aU 7 i g d b k] w (StDone w B own gs most rate e n):=by
 have t:c.length=b:=by simpa using m.1.1
 have u:∀f,LFS B gs w f own own->TabW f:=fun f r=>p.below (r.below l.size) o;unfold doM at a;rw [zBw dC] at a;rw [zBw dC] at a;rw [zBw dC] at a;rw [zBw dC] at a;rw [zBw dC] at a;rw [zBw dC] at a;rw [zBx rfl] at a;cases a;exact yW B own gs gl most rate j c i g d b k w l m q
def aHi (B:Nat) (own) (gs gl most rate:Nat) (j d e m) (i g:Int) (c) (b k:Nat) (w) (a:doM j (most:Int) 8 i g d=(e,m)) (l:StAt w B own gs gl most rate j) (o:ArgZ w B own gs c b d) (t:b<=1000000) (p:TabW w) (n:1 < B) (r:e.length<=127):
 Calls prog 15 #[gs,aU 8 i g c b k] w (StDone w B own gs most rate e m):=by
 have s:d.length=b:=by simpa using o.1.1
 have u:∀f,LFS B gs w f own own->TabW f:=fun f q=>p.below (q.below l.size) n;unfold doM at a;rw [zBw dC] at a;rw [zBw dC] at a;rw [zBw dC] at a;rw [zBw dC] at a;rw [zBw dC] at a;rw [zBw dC] at a;rw [zBw dC] at a;rw [zBx rfl] at a;cases a;exact yV B own gs gl most rate j i g c b k w l
def yU (B:Nat) (own) (gs gl most rate:Nat) (g j k m) (d f e:Int) (c) (b i:Nat) (w) (n:doM g (most:Int) d f e j=(k,m)) (l:StAt w B own gs gl most rate g) (o:ArgZ w B own gs c b j) (p:b<=1000000) (s:TabW w) (r:1 < B) (q:k.length<=127):
 Calls prog 15 #[gs,aU d f e c b i] w (StDone w B own gs most rate k m):=by
 have a:=n;unfold doM at a;by_cases t:d=1;subst t;exact aHn B own gs gl most rate g j k m f e c b i w n l o p s r q;rw [zBw t] at a;by_cases u:d=2;subst u;exact aHm B own gs gl most rate g j k m f e c b i w n l o p s r q;rw [zBw u] at a;by_cases y:d=5;subst y;exact aHk B own gs gl most rate g j k m f e c b i w n l o p s r q;rw [zBw y] at a;by_cases v:d=3;subst v;exact aHl B own gs gl most rate g j k m f e c b i w n l o p s r q;rw [zBw v] at a;by_cases x:d=4;subst x;rw [zBx rfl] at a;cases a;exact aDp B own gs gl most rate _ g f e c b i w l rfl;rw [zBw x] at a;by_cases z:d=6;subst z;rw [zBx rfl] at a;cases a;exact zY B own gs gl most rate g j f e c b i w l o p;rw [zBw z] at a;by_cases A:d=7;subst A;exact aHj B own gs gl most rate g j k m f e c b i w n l o p s r q;rw [zBw A] at a;by_cases C:d=8;subst C;exact aHi B own gs gl most rate g j k m f e c b i w n l o p s r q;rw [zBw C] at a;cases a;exact aDq B own gs gl most rate g d f e c b i w l fun F D E=>by omega
end
end Go.Proofs.YtecdldbdednahaaGreatDoor
