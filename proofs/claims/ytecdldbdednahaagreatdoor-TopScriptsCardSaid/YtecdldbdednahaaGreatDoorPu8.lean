/- Lemmas of the walk. Conditions: each its own. -/
import Derived.Test.YtecdldbdednahaaGreatDoorPu4
import Derived.Test.YtecdldbdednahaaGreatDoorPu5
import Derived.Test.YtecdldbdednahaaGreatDoorProg
import Derived.Test.YtecdldbdednahaaGreatDoorShl
import Derived.Test.YtecdldbdednahaaGreatDoorSht
set_option linter.all false
set_option maxRecDepth 100000
set_option maxHeartbeats 4000000
open Go.Proofs.Tryz
namespace Go.Proofs.YtecdldbdednahaaGreatDoor
section
open Go.RowKit
def vU:(prog.info? 5).map (fun i=>(i.zero,i.size,i.bytes))=some (some (.int .u8 0),1,1):=by kernel_rfl
def aJB (a:Nat) (b) (t:a<=1099511627776):
 Calls prog 75 #[(),(a:Int)] b fun l g=>∃f,l=.returned f/\g.ownsRow b.heap.size 5 1 f 0 []/\Below b.heap.size b g:=by
 obtain ⟨q,m,o,u,p⟩:=info_parts vU;rcases zBa a with c | c
 · subst c;go_enter func75,ntmps75;go_wp2;go_ret;exact ⟨_,rfl,kj _ _ _ _,kh _ _⟩
 · have d:=Lib.run_append_nil_zeros (P:=prog) b 22 3 22 5 q (.int .u8 0) .i64 .i64 underlying22 underlying3 m o a c oM oM (by rw [p];omega);have s:=grownCap_ge b a 0 5;have n:=grownCap_le_maxLen b a 0 5 (by unfold maxLen;omega);generalize grownCap b a 0 5=cp at*
   have e:(Builtin.zeroCells (Value.int .u8 0).cells a++Builtin.zeroCells (Value.int .u8 0).cells (cp - a)).size=cp*1:=(by simp [Builtin.zeroCells,Value.cells];omega);obtain ⟨k,j⟩:=hqq2 e d;clear e d;have r:¬((a:Int) < 0):=oM;go_enter func75,ntmps75;go_wp2_with (at_builtin;refine Lib.wpList_append_run _ rfl (.tmp 20) (.tmp 21) _ _ rfl _ _ rfl rfl _ _ j.out ?_);go_ret;exact ⟨_,rfl,World.ownsRow_made _ _ _ nL n k.out,bR.drew.alloc nL _⟩
structure Sl where
 A:Option Addr
 n:Nat
 c:Nat
 l:List UInt8
def slV (a:Sl):Value:=.slice a.A a.n a.c
def iN (a:List Sl):List UInt8:=a.flatMap (·.l)
def aAI (b:List Sl) (a:Nat) (c:Sl) (d:b[a]?=some c):iN (b.take (a+1))=iN (b.take a)++c.l:=by
 rw [zAv,d];simp [iN]
def aBu (a b):(iN (a.take b)).length<=(iN a).length:=by
 have:iN a=iN (a.take b)++iN (a.drop b):=by unfold iN;rw [<-List.flatMap_append,zAu]
 rw [this,zAi];omega
def nG (H f a2 u d w N) (y:iN d=w) (T:w.length=N) (g) (D:Rd g u 1 H f (d.map slV)) (E:∀b∈d,Rd g u 1 b.A b.n (b.l.map bv)) (Q:u<=g.heap.size) (an:f<=1099511627776) (ab:N<=1099511627776):
 Calls prog 42 #[.slice H f a2] g fun P Z=>∃s t,P=.returned (.slice s N t)/\Made Z g.heap.size 5 1 s N t (w.map bv)/\Below g.heap.size g Z:=by
 obtain ⟨aj,a8,ag,ah,ai⟩:=info_parts vU;have U:d.length=f:=by simpa using D.1
 have V:∀a,(iN (d.take a)).length<=1099511627776:=fun a=>by have:=aBu d a;rw [y] at this;omega
 have X:∀a b,d[a]?=some b->b.l.length=b.n/\(iN (d.take (a+1))).length=(iN (d.take a)).length+b.n:=fun a b e=>by
  have o:=(E b (zAd e)).1;have j:b.l.length=b.n:=by simpa using o
  rw [aAI d a b e,zAi,j];exact ⟨rfl,rfl⟩
 obtain ⟨m,L,O,M,a0,J,I⟩:=hqq7 U V X (D.mono Q) (fun b e=>(E b e).mono Q) y T;clear U V X D E y T;go_enter func42,ntmps42;go_wp2;go_loopw [3,11] (fun G i wr=>∃a:Nat,a<=f/\i=.int .i64 a/\G=.int .i64 ((iN (d.take a)).length:Int)/\g=wr) (fun _ i _=>f -(intOf i).toNat)
 case atStart=>exact ⟨0,zAp _,rfl,by simp [iN],rfl⟩
 case round=>
  obtain ⟨a,a9,rfl,rfl,rfl⟩:=hrel;by_cases C:a < f
  · obtain ⟨b,e⟩:∃b,d[a]?=some b:=⟨d[a]'(by have:=m.out;omega),zAa (by have:=m.out;omega)⟩;obtain ⟨a1,ak,al,rfl,a5,k,z⟩:=M.out.get C;rw [zAf,e] at k;simp at k;subst k;unfold slV at z;obtain ⟨o,j⟩:=O.out a b e;have x:=L.out (a+1);generalize W:(iN (d.take a)).length=F at*
    have v:=lhd j;rw [j] at x;clear o j e W;have ao:¬((F:Int)+(b.n:Int) < 0):=oM;go_wp2;go_roundw
    case rel=>exact ⟨a+1,by omega,by go_num,by rw [v.out];go_num,trivial⟩
    case measure=>simp [intOf];omega
  · have B:a=f:=oM;have a7:f<=a:=oM;have r:d.take a=d:=zAg (by have:=m.out;omega);rw [r,J.out,I.out];clear B r;go_wp2_with fail;refine (aJB N _ ab).mono ?_;rintro P w1 ⟨ap,rfl,ac,a4⟩;go_wp2_with fail;go_loopw [6,27] (fun G i wr=>∃a:Nat,a<=f/\i=.int .i64 a/\wr.ownsRow g.heap.size 5 1 G (iN (d.take a)).length ((iN (d.take a)).map bv)/\Below g.heap.size g wr) (fun _ i _=>f -(intOf i).toNat)
    case atStart=>exact ⟨0,zAp _,rfl,ac,a4⟩
    case round=>
        obtain ⟨a,a9,rfl,q,p⟩:=hrel;have Y:=p.size;by_cases C:a < f
        · obtain ⟨b,e⟩:∃b,d[a]?=some b:=⟨d[a]'(by have:=m.out;omega),zAa (by have:=m.out;omega)⟩;obtain ⟨a1,ak,al,rfl,a5,k,z⟩:=(M.out.below p).get C;rw [zAf,e] at k;simp at k;subst k;unfold slV at z;have ae:=lhd ((a0.out b (zAd e)).below p);obtain ⟨o,j⟩:=O.out a b e;have x:=L.out (a+1);obtain ⟨af,v⟩:=hqq2 (aAI d a b e) j;generalize W:(iN (d.take a)).length=F at*
          rw [j] at x;have K:=lhd q;clear o j e q;go_wp2_with (at_builtin;refine bF _ rfl (.tmp 31) (.tmp 32) _ rfl g.heap.size 5 aj (.int .u8 0) 1 1 underlying22 a8 ag ah ai rfl dC _ F _ rfl K.out g.heap.size b.A b.n b.c _ rfl ae.out (iY _) (by unfold maxLen;omega) oM Y ?_;intro aq ar ad a6 am);have a3:=aZ p K.out a6 Y;go_roundw
          case rel=>refine ⟨a+1,by omega,by go_num,?_,a3⟩;rw [v.out,af.out,zAz];exact ad
          case measure=>simp [intOf];omega
        · have B:a=f:=oM;have a7:f<=a:=oM;have r:d.take a=d:=zAg (by have:=m.out;omega);rw [r,J.out,I.out] at q;obtain ⟨s,t,rfl,aa⟩:=aS q;clear B r q;go_wp2;go_ret;exact ⟨s,t,rfl,aa,p⟩
def TreeE.keepT {c l d e j f} (n:TreeE c e j f) (s:Keep d c l) (r:∀a,d a->∃b g,Bk c a b g/\(b=180∨b=183)):TreeE l e j f:=
 n.keep s fun a b g k p _ m=>by obtain ⟨u,t,q,o⟩:=r a m;rw [(aP p q).1] at k;rcases o with rfl | rfl <;>(revert k;decide)
def TreeE.typed {m r w u} (E:TreeE m r w u):TreeE m (fun a=>r a/\∃q c,Bk m a q c/\q∈ [226,168,229,245,4,3]) w u:=by
 have x:∀ {l:Nat} {y:List Bool} {v:List Nat},ArenaE m r l y v->ArenaE m (fun a=>r a/\∃q c,Bk m a q c/\q∈ [226,168,229,245,4,3]) l y v:=fun ⟨o,A,C,z,B,f,g,d,e,j⟩=>
  ⟨⟨o,_,_,f,by decide⟩,A,C,z,B,f,g,d,fun a p=>⟨e a p,by obtain ⟨c,k⟩:=fE g p;exact ⟨_,c,k,by decide⟩⟩,fun a p=>⟨j a p,by obtain ⟨c,k⟩:=fE d p;exact ⟨_,c,k,by decide⟩⟩⟩
 obtain ⟨o,l,t,⟨f,g,d,e⟩|⟨f,n,s,G,g,d,e,j⟩|⟨f,g,n,s,D,d,e,j,F⟩⟩:=E;exact ⟨⟨o,_,_,d,by decide⟩,l,t,.inl ⟨f,⟨g,_,_,e,by decide⟩,d,e⟩⟩;exact ⟨⟨o,_,_,d,by decide⟩,l,t,.inr (.inl ⟨f,n,s,G,⟨g,by obtain ⟨c,k⟩:=fE e (b:=n) rfl;exact ⟨_,c,k,by decide⟩⟩,d,e,x j⟩)⟩;exact ⟨⟨o,_,_,j.tree,by decide⟩,l,t,.inr (.inr ⟨f,g,n,s,D,⟨d,by obtain ⟨c,k⟩:=fE j.row (b:=n) rfl;exact ⟨_,c,k,by decide⟩⟩,⟨e,_,_,j.blk,by decide⟩,j,x F⟩)⟩
def ShelfE (g:World) (own:Nat->Nat) (j:Nat) (f:Value) (k:List Nat) (c d:Nat):Prop:=
 ∃e:Nat->Nat,g.ownsRow j 183 3 f d (eJ e c d)/\(∀a,f.ownBlock=some a->own a=2)/\∀b,b < d->TreeE g (fun a=>own a=TC c b) (e b) (aL k c b)
def ShelfE.keepW {e q b f own j p g n o} (s:ShelfE e own f p g n o) (m:Keep (fun a=>a=b) e q) (l:Bk e b 180 j):ShelfE q own f p g n o:=by
 obtain ⟨r,t,u,v⟩:=s;refine ⟨r,aA t fun a y _ k=>m.bk k fun c=>?_,u,fun x w=>(v x w).keepT m fun a c=>?_⟩;have d:a=b:=c;subst d;exact absurd (aP k l).1 dC;have d:a=b:=c;subst d;exact ⟨_,j,l,.inl rfl⟩
def ShelfE.mono {c own l B B' n d b k} (q:ShelfE c own B n d b k) (t:B'<=B) (j:∀a,a < c.heap.size->own a≠0->l a=own a):ShelfE c l B' n d b k:=by
 obtain ⟨o,f,r,s⟩:=q;refine ⟨o,bN f t,fun a g=>?_,fun m v=>(s m v).mono fun a u p=>?_⟩;have:=r a g;rw [j a (f.lt a g).2 oM];exact this;have e:own a=TC b m:=p;rw [j a u (by rw [e];unfold TC;omega)];exact e
structure RowsE (w:World) (own:Nat->Nat) (B gv:Nat) (S:Nat->Value) (L:List Nat) (lv:Nat):Prop where
 bnd:∀b,own b≠0->B<=b/\b < w.heap.size
 gv2:own gv=2
 rows:∀j,j < lv->ShelfE w own B (S j) L j (2 ^ j)
def aJ9 {b c f:Nat} (g:c<=b/\b < f):∀a,(if a=b then 2 else 0)≠0->c<=a/\a < f:=fun a e=>by
 by_cases d:a=b;subst d;exact g;rw [zBw d] at e;exact absurd rfl e
def zP (own:Nat->Nat) (d:Nat) (e:Option Nat) (c b a:Nat):Nat:=if a < d then own a else if e=some a then 2 else if a < c then b else 0
def ShelfE.next {f j own o m d b s l p g H} (P:d < 9) (Q:b < 2 ^ d) (F:f.ownsRow o 183 3 s b (eJ g d b)) (A:∀a,s.ownBlock=some a->own a=2) (B:∀e,e < b->TreeE f (fun a=>own a=TC d e) (g e) (aL p d e)) (D:∀a,own a≠0->a < f.heap.size) (J:Keep H f j) (C:∀a,H a->∃n u,Bk f a n u/\(n=180∨n=183)) (G:TreeE j (fun a=>f.heap.size<=a) m (aL p d b)) (y:j.ownsRow o 183 3 l (b+1) (eJ g d b++ [.pointer (some m),.int .i64 (d:Int),.int .i64 (b:Int)])) (I:l.ownBlock=s.ownBlock∨∃r,l.ownBlock=some r/\f.heap.size<=r):ShelfE j (zP own f.heap.size l.ownBlock j.heap.size (TC d b)) o l p d (b+1):=by
 have x:∀a,a < f.heap.size->zP own f.heap.size l.ownBlock j.heap.size (TC d b) a=own a:=fun a c=>by unfold zP;rw [zBx c]
 refine ⟨fun i=>if i=b then m else g i,?_,fun a c=>?_,fun e T=>?_⟩;rw [jE,aA0 (fun i=>if i=b then m else g i) g d b (fun i O=>zBw oM),zBx rfl];exact y
 · rcases I with k |⟨r,k,M⟩;rw [k] at c;rw [x a (F.lt a c).2];exact A a c
   · rw [k] at c;injection c with c;subst c;unfold zP;rw [zBw oM,zBx k]
 show TreeE j _ (if e=b then m else g e) _;by_cases t:e=b;subst t;rw [zBx rfl];refine G.typed.mono fun a w q=>?_;obtain ⟨L,n,u,c,z⟩:=q;unfold zP;rw [zBw oM,zBw (fun k=>?_),zBx w];obtain ⟨K,E⟩:=fE y k;rw [(aP c E).1] at z;revert z;decide;rw [zBw t];refine ((B e oM).keepT J C).mono fun a w q=>?_;have v:own a=TC d e:=q;have c:=D a (by rw [v];unfold TC;omega);rw [x a c];exact v
def aIz {own e d c f v} (l:∀a,own a≠0->f<=a/\a < e) (o:e<=d) (n:f<=e) (m:∀a,v=some a->a < d):∀a,zP own e v d c a≠0->f<=a/\a < d:=fun a b=>by
 unfold zP at b;by_cases g:a < e;rw [zBx g] at b;have:=l a b;exact ⟨this.1,by omega⟩;rw [zBw g] at b;by_cases j:v=some a;have:=m a j;exact ⟨by omega,this⟩;rw [zBw j] at b;by_cases k:a < d;exact ⟨by omega,k⟩;rw [zBw k] at b;exact absurd rfl b
def aBz (bE a1 c1 bF u D) (bs:Rd D bF 1 bE a1 (u.map sv)) (c4:bF<=D.heap.size) (am:a1<=128) (c5:∀M∈u,M < 257):
 Calls prog 138 #[.slice bE a1 c1] D fun l aX=>∃g own,l=.returned (.tuple #[.pointer (some ⟨g,0,none⟩),o0])/\WaveE aX D.heap.size own g u/\Below D.heap.size D aX:=by
 have cm:u.length=a1:=by simpa using bs.1
 obtain ⟨bW,bL,ar,bI⟩:=hqq4 bs c5 cm c4;obtain ⟨g,ci⟩:=eqx D.heap.size;obtain ⟨aj,aM⟩:=eqx (D.alloc (.cells #[(),(),(),(),(),(),(),(),(),(a1:Int),o0] 180));have af:Bk aj g 180 (wcells (fun _=>.slice none 0 0) (a1:Int) 0):=by rw [<-aM,<-ci];have U:=ke D 180 #[(),(),(),(),(),(),(),(),(),(a1:Int),o0];unfold wcells;exact U
 have c7:Below D.heap.size D aj:=by rw [<-aM];exact bR.alloc nL _
 obtain ⟨b1,aZ,cF,aJ⟩:=hqq4 af c7 aM ci;clear bs c5 cm af c7 aM c4;go_enter func138,ntmps138;go_wp2_with fail;rw [cF.out]
 try rw [aJ.out]
 go_loopw [20] (fun i wr=>∃t:Nat,t<=a1/\i=.int .i64 t/\Below aj.heap.size aj wr) (fun i _=>a1 -(intOf i).toNat)
 case atStart=>exact ⟨0,by omega,rfl,kh _ _⟩
 case round=>
  obtain ⟨t,aS,rfl,k⟩:=hrel;have bu:=k.size;have ct:=aZ.out.size;by_cases cn:t < a1
  · have dx:t < u.length:=(by rw [ar.out];exact cn);obtain ⟨M,ac⟩:∃M,u[t]?=some M:=⟨u[t],zAa dx⟩;obtain ⟨a,dT,e2,rfl,dr,ai,bg⟩:=(((bW.out.mono bI.out).below aZ.out).below (k.mono ct)).get cn;rw [zAf,ac] at ai;simp at ai;subst ai;have aF:M < 257:=bL.out M (zAd ac);unfold sv at bg;clear ac;go_wp2_with fail;refine (fO M _ aF).mono ?_;rintro l w1 ⟨rfl,dm⟩;have a3:=k.trans (dm.mono bu);go_wp2_with fail;go_roundw
    case rel=>exact ⟨t+1,by omega,by go_num,a3⟩
    case measure=>simp [intOf];omega
  · have dy:t=a1:=oM;subst dy;have bK:=lhd k;clear k;go_wp2_with fail;go_loopw [28] (fun i wr=>∃e:Nat,e<=9/\i=.int .i64 e/\Below D.heap.size D wr/\aj.heap.size<=wr.heap.size/\∃S lM,Bk wr g 180 (wcells S (t:Int) 0)/\RowsE wr lM D.heap.size g S u e/\(∀I,e<=I->S I=.slice none 0 0)) (fun i _=>9 -(intOf i).toNat)
    case atStart=>exact ⟨0,by omega,rfl,aZ.out.trans (bK.out.mono ct),bu,_,fun a=>if a=g then 2 else 0,b1.out.below bK.out b1.out.lt,⟨aJ9 ⟨by have:=aJ.out;omega,zAl b1.out.lt bu⟩,zBx rfl,fun I ck=>absurd ck oM⟩,fun I _=>rfl⟩
    case round=>
        obtain ⟨e,em,rfl,af,dj,S,lM,aO,an,bo⟩:=hrel;by_cases aU:e < 9
        · obtain ⟨y,dl⟩:∃y,y=wr:=⟨_,rfl⟩;subst dl;obtain ⟨C,am⟩:=eqx (2 ^ e);have ep:C<=512:=(by rw [<-am];exact zAk (zBp dC (by omega:e<=9)) dC);have eq:=aIe C oM;have en:(2:Int)^ e=(C:Int):=(by rw [<-am];push_cast;rfl);obtain ⟨L,ch⟩:=eqx y.heap.size;obtain ⟨ae,aN⟩:∃ae,y.alloc (.cells (rowC (fun _=>.slice none 0 0) C) 112)=ae:=⟨_,rfl⟩;have cc:Bk ae L 112 (rowC (fun _=>.slice none 0 0) C):=(by rw [<-aN,<-ch];exact ke _ _ _);have ca:=Bits.start ae y.heap.size L C cc;have c8:Below y.heap.size y ae:=(by rw [<-aN];exact bR.alloc nL _);obtain ⟨cL,cI,aI,au,bS,aq,cG,cR,b3⟩:=hqq9 ca c8 aO an bo af aN ch am;clear ca c8 aO an bo af aN cc am;go_wp2_with fail;rw [cG.out];obtain ⟨dR,du,dO,dP,dQ⟩:=info_parts pI;have ds:decide ((e:Int) < 9)=true:=zBz oM;rw [ds];go_loopw [37] (fun i bD=>∃(I:Nat) (b9:Nat->Value),I<=t/\i=.int .i64 I/\Bits bD y.heap.size L C b9 (fun d=>aL (u.take I) e d)/\Below y.heap.size y bD/\ae.heap.size<=bD.heap.size) (fun i _=>t -(intOf i).toNat)
          case atStart=>exact ⟨0,_,by omega,rfl,by rw [List.take_zero];exact cL.out,cI.out,zAs _⟩
          case round=>
           obtain ⟨I,b9,ck,rfl,az,a3,ev⟩:=hrel;have cu:=a3.size;by_cases cl:I < t
           · have dw:I < u.length:=(by rw [ar.out];exact cl);obtain ⟨M,ac⟩:∃M,u[I]?=some M:=⟨u[I],zAa dw⟩;have be:Below D.heap.size D wr:=aq.out.trans (a3.mono aq.out.size);obtain ⟨e6,dT,e2,rfl,dr,ai,bg⟩:=((bW.out.mono bI.out).below be).get cl;rw [zAf,ac] at ai;simp at ai;subst ai;have aF:M < 257:=bL.out M (zAd ac);have cw:u.take (I+1)=u.take I++ [M]:=(by rw [zAv,ac];rfl);have dK:(u.take I).length<=128:=(by rw [zAj];omega);unfold sv at bg;obtain ⟨b0,cE,ad⟩:=hqq3 az cw a3;have ej:=be;clear ac az cw a3 be;go_wp2_with fail;refine (lK M e _ aF oM).mono ?_;rintro l w1 ⟨rfl,X⟩;obtain ⟨d,a4⟩:=eqx (bG M e);rw [a4];have ah:d < C:=(by rw [<-b3.out,<-a4];exact mO M e aF oM);have dB:(d:Int) < (C:Int):=oM;have aB:=b0.out.below X;obtain ⟨Q,a5⟩:=eqx (aL (u.take I) e d);obtain ⟨q,ab⟩:=eqx Q.length;have cp:q<=128:=(by rw [<-ab,<-a5,jM];exact zAk zBh dK);have V:=aB.own d ah;simp only [a5,ab] at V;obtain ⟨J,K,a9,cq,_⟩:=aW V;have bb:=V.lt;rw [a9] at V bb;have cC:y.heap.size<=w1.heap.size:=zAk cu X.size;have bA:(Value.slice J q K).ownBlock≠some L:=fun l=>bC V aB.blk dC l.symm;have aP:=aB.blk;have bh:w1.cell? ⟨L,d,none⟩=some (.slice J q K):=(by rw [<-a9];exact (aP.cell d).trans (nS _ _ _ ah));have bj:=aP.lt;obtain ⟨a,c9⟩:=eqx (hQ M e);obtain ⟨bN,b4,cO,cM,cV,b5,cW,bM,bP⟩:=hqq9 c9 V aP aB a4 a5 ab a9 bh;have ap:=lhd X;clear c9 V aP aB a4 a5 ab a9 bh X;go_wp2_with fail;refine wp_region_any kR ?_;refine cK 12 [44,45,46,47,48,49,50,51,52,53,54,55] (fun a=>(Value.slice J q K).ownBlock=some a) 10 [10] (fun s=>s.ownsRow y.heap.size 4 1 (.slice J q K) q (Q.map Value.bool)) (fun n s=>s.ownsRow y.heap.size 4 1 n (q+1) (Q.map Value.bool++ [.bool a])/\(n.ownBlock=(Value.slice J q K).ownBlock∨∃x,n.ownBlock=some x/\w1.heap.size<=x)) [is (.slice (some ⟨L,0,none⟩) C C),is (d:Int),is (.slice (some ⟨L,0,none⟩) C C),is (d:Int),is (.pointer (some ⟨L,d,none⟩)),is (.slice J q K),is (M:Int),is (e:Int),is (.bool a),nV (fun a=>(Value.slice J q K).ownBlock=some a) 4 #[.bool a] fun x=>.slice (some ⟨x,0,none⟩) 1 1,cJ,is (.pointer (some ⟨L,d,none⟩))] _ _ rfl dC kR kR kR (b4.out) (fun s e4 U _ bi=>aQ U bi) (fun _ _ _ ⟨a7,a8⟩ t=>⟨aQ a7 t,a8⟩) tA3 ?_ ?_
             · refine bJ ?_;refine pH3 8 (.slice (some ⟨L,0,none⟩) C C) ?_;refine pH3 11 (.int .i64 (d:Int)) ?_;refine pH3 8 (.slice (some ⟨L,0,none⟩) C C) ?_;refine pH3 11 (.int .i64 (d:Int)) ?_;refine pW3 2 46 3 47 ?_;refine pL3 4 48 (fun o j=>have j:Keep (fun a=>(Value.slice J q K).ownBlock=some a) w1 o:=kD j;((j.cell (p:=⟨L,d,none⟩) bj bA).trans bP.out:o.cell? ⟨L,d,none⟩=some (.slice J q K))) ?_;refine pH3 10 (.int .i64 (M:Int)) ?_;refine pH3 7 (.int .i64 (e:Int)) ?_;refine sC3 (fun _ o _ _ _ _ _ w _ _ _ P=>?_) ?_
               · have e9:_=_:=w 6 50 kR rfl;have ea:_=_:=w 7 51 kR rfl;go_simp;refine (nB M e o aF aU).mono ?_;rintro l e5 ⟨rfl,bf⟩;rw [bN.out];exact P _ _ (aE bf) rfl
               refine sC3 (fun _ o j _ _ _ _ w _ _ _ P=>?_) ?_
               · replace j:Keep (fun a=>(Value.slice J q K).ownBlock=some a) w1 o:=kD j;have eb:_=_:=w 8 52 kR rfl;go_simp;exact P _ _ (aE (bR.alloc nL _)) ⟨_,rfl,ke _ _ _,fun U=>by have:=(bb _ U).2;have:=j.size;omega⟩
               refine sC3 (fun T o j bc _ _ _ w _ _ bd P=>?_) ?_;replace j:Keep (fun a=>(Value.slice J q K).ownBlock=some a) w1 o:=kD j;have bq:=bc rfl;have d1:_=_:=w 5 49 kR rfl;have dV:(nV (fun a=>(Value.slice J q K).ownBlock=some a) 4 #[.bool a] fun x=>.slice (some ⟨x,0,none⟩) 1 1) (T (.tmp 53)) o:=w 9 53 kR rfl;obtain ⟨d9,d2,dn,er⟩:=dV;subst bd;have bw:y.heap.size<=o.heap.size:=zAk cC j.size;have dN:=j.size;refine eB o (.tmp 49) (.tmp 53) _ rfl y.heap.size 4 dR (.bool false) 1 1 underlying112 du dO dP dQ rfl dC (.slice J q K) q (Q.map Value.bool) d1 bq o.heap.size (some ⟨d9,0,none⟩) 1 1 [.bool a] d2 (aEn dn) (by simp [Value.oneCell']) (by unfold maxLen;omega) oM bw ?_;intro e3 r Y a0 a2;refine P _ _ (aT ⟨a0.os,a0.tape,a0.output,a0.size,fun t aS bn=>a0.block t aS (fun l=>bn l.symm)⟩) ⟨Y,?_⟩;rcases a2 with ba | ba;exact .inl ba;exact .inr ⟨_,ba,dN⟩;refine pW3 0 44 1 45 ?_;exact aC
             · intro T r B j w;replace j:Keep (fun a=>(Value.slice J q K).ownBlock=some a) w1 r:=kD j;have dW:(fun n s=>s.ownsRow y.heap.size 4 1 n (q+1) (Q.map Value.bool++ [.bool a])/\(n.ownBlock=(Value.slice J q K).ownBlock∨∃x,n.ownBlock=some x/\w1.heap.size<=x)) (T (.tmp 54)) r:=w 10 54 dC rfl;have d4:T (.tmp 55)=.pointer (some ⟨L,d,none⟩):=w 11 55 dC rfl;simp only [zqq];rw [d4];clear w;obtain ⟨Y,a2⟩:=dW;have br:=Bits.push (v:=T (.tmp 54)) (b:=a) cM.out ah (by rw [bM.out];exact j) (by simp only [b5.out,cW.out];exact Y) (by rw [bM.out];exact a2);obtain ⟨E,G,d3,_,_⟩:=aW Y;rw [d3] at br⊢;have aa:=j.bk cO.out bA;have e7:r.cell? ⟨L,d,none⟩=some (.slice J q K):=(j.cell (p:=⟨L,d,none⟩) bj bA).trans bP.out;have eh:=aa.frozen d;have bU:=lhd br;have ek:=aa.lt;clear br aa Y a2;change wpAny prog Region.Mode.any _ _ (1+B) (bX 12 13) _ r;rw [zCs 1 B];refine bQ (f:=B) (i:=12) kR ?_;refine bY rfl rfl ?_;generalize P:wpAny prog _ _ _ B _=b8;go_simp;subst P;refine bV kR ?_
               have dp:Below y.heap.size y (r.setCell ⟨L,d,none⟩ (.slice E (q+1) G)):=
                  ((ad.out.trans (ap.out.mono cu)).trans (j.to_below cC (fun a k U=>by have:=(bb _ U).1;omega))).setCell (by rw [cR.out];exact zAs _) _
               have dE:ae.heap.size<=(r.setCell ⟨L,d,none⟩ (.slice E (q+1) G)).heap.size:=by have a7:=ap.out.size;have a8:=j.size;have ax:(r.setCell ⟨L,d,none⟩ (.slice E (q+1) G)).heap.size=r.heap.size:=(by simp [World.setCell]);omega
               have cd:=bU.out.congr (R':=fun bB=>aL (u.take (I+1)) e bB) (fun bB et=>by
                  rw [cE.out,aG0,cV.out,bN.out];by_cases l:bB=d
                  · subst l;simp
                  · simp [l])
               have cP:=lhd cd;clear cd bU;go_wp2_with fail;go_roundw
               case rel=>exact ⟨I+1,_,by omega,by go_num,cP.out,dp,dE⟩
               case measure=>simp [intOf];omega
           · have dv:I=t:=oM;subst dv;have dg:u.take I=u:=zAg (by rw [ar.out];omega);rw [dg] at az;have b0:=lhd az;obtain ⟨W,di⟩:∃W,W=wr:=⟨_,rfl⟩;subst di;have dM:D.heap.size<=W.heap.size:=zAk aq.out.size a3.size;have ad:=lhd a3;clear az a3;obtain ⟨dS,db,dc,dd,de⟩:=info_parts aEf;go_wp2_with fail;go_loopw [59] (fun i ao=>∃(d:Nat) (n:Value),d<=C/\i=.int .i64 d/\Bits ao y.heap.size L C b9 (fun d=>aL u e d)/\Keep (fun a=>a=g) y ao/\W.heap.size<=ao.heap.size/\Bk ao g 180 (wcells (fun i=>if i=e then n else S i) (I:Int) 0)/\∃a6:Nat->Nat,(∀a,a < y.heap.size->a6 a=lM a)/\(∀a,a6 a≠0->D.heap.size<=a/\a < ao.heap.size)/\ShelfE ao a6 W.heap.size n u e d) (fun i _=>C -(intOf i).toNat)
             case atStart=>
              refine ⟨0,.slice none 0 0,by omega,rfl,b0.out,(kF ad.out),zAs _,?_,lM,fun _ _=>rfl,fun a k=>⟨(au.out.bnd a k).1,zAl (au.out.bnd a k).2 ad.out.size⟩,(fun _=>0),kj _ _ _ _,fun a k=>(by cases k),fun d a4=>absurd a4 oM⟩
              have dh:(fun i=>if i=e then Value.slice none 0 0 else S i)=S:=by
                  funext i;by_cases l:i=e
                  · rw [zBx l,l,bS.out e nL]
                  · rw [zBw l]
              rw [dh];exact aI.out.below ad.out aI.out.lt
             case round=>
              obtain ⟨d,n,a4,rfl,ak,al,cs,X,a6,aD,aR,bt⟩:=hrel;by_cases ah:d < C
              · have V:=ak.own d ah;obtain ⟨Q,a5⟩:=eqx (aL u e d);obtain ⟨q,ab⟩:=eqx Q.length;have cp:q<=128:=(by rw [<-ab,<-a5,jM];exact zAk zBh (by rw [ar.out];exact am));simp only [a5,ab] at V;obtain ⟨J,K,a9,cq,_⟩:=aW V;rw [a9] at V;have bh:wr.cell? ⟨L,d,none⟩=some (.slice J q K):=(by rw [<-a9];exact (ak.blk.cell d).trans (nS _ _ _ ah));obtain ⟨aH,ag,cy,cx⟩:=bt;obtain ⟨z,A,dL,eu,_⟩:=aW ag;subst dL;have ay:=ag.lt;have bl:(Value.slice z d A).ownBlock≠some g:=fun l=>bC ag X dC l.symm;have ce:∀Z,183≠Z->∀a O,Bk wr a Z O->(Value.slice z d A).ownBlock≠some a:=fun Z bv a O k l=>bC ag k bv l.symm;have cg:∀a,(Value.slice z d A).ownBlock=some a->∃Z O,Bk wr a Z O/\(Z=180∨Z=183):=fun a k=>by obtain ⟨O,U⟩:=fE ag k;exact ⟨_,O,U,.inr rfl⟩
                have c2:wr.cell? ⟨g,e,none⟩=some (.slice z d A):=(X.cell e).trans (by rw [tM _ _ _ _ aU,zBx rfl]);have cj:=X.lt;have bj:=ak.blk.lt;have eo:d+1<=512:=oM;have dB:(d:Int) < (C:Int):=oM;have ew:=ad.out.size;obtain ⟨b4,bT,cY,cZ,cT,bO,b2,cQ,bH⟩:=hqq9 V ag cx cy aD aR ce cg c2;obtain ⟨ap,cS,cN,b5⟩:=hqq4 X al ak a5;clear V ag cx cy aD aR ce cg c2 X al ak a5 a9 ab;go_wp2_with fail;refine wp_region_any kR ?_;refine cK 18 [64,65,66,67,68,69,70,71,72,73,74,75,76,77,78,79,80,81] (fun a=>(Value.slice z d A).ownBlock=some a) 14 [14] (fun s=>s.ownsRow W.heap.size 183 3 (.slice z d A) d (eJ aH e d)) (fun n s=>∃m,TreeB s wr.heap.size m Q/\s.ownsRow W.heap.size 183 3 n (d+1) (eJ aH e d++ [.pointer (some ⟨m,0,none⟩),.int .i64 (e:Int),.int .i64 (d:Int)])/\(n.ownBlock=(Value.slice z d A).ownBlock∨∃x,n.ownBlock=some x/\wr.heap.size<=x)) [is (.pointer (some ⟨g,0,none⟩)),is (e:Int),is (.pointer (some ⟨g,0,none⟩)),is (e:Int),is (.pointer (some ⟨g,0,none⟩)),is (.pointer (some ⟨g,0,none⟩)),is (.pointer (some ⟨g,e,none⟩)),is (.slice z d A),is (.slice J q K),fun n s=>∃m,n=.pointer (some ⟨m,0,none⟩)/\TreeB s wr.heap.size m Q,is (e:Int),is (d:Int),fun n s=>∃m,n=.agg #[.pointer (some ⟨m,0,none⟩),(e:Int),(d:Int)]/\TreeB s wr.heap.size m Q,fun n s=>∃x m,n=.slice (some ⟨x,0,none⟩) 1 1/\Bk s x 183 #[.pointer (some ⟨m,0,none⟩),(e:Int),(d:Int)]/\(Value.slice z d A).ownBlock≠some x/\TreeB s wr.heap.size m Q,cJ,is (.pointer (some ⟨g,0,none⟩)),is (.pointer (some ⟨g,0,none⟩)),is (.pointer (some ⟨g,e,none⟩))] _ _ rfl dC kR kR kR (bT.out) (fun s e4 U _ bi=>aQ U bi) (fun _ _ _ ⟨m,a7,a8,ax⟩ t=>⟨m,a7.below t,aQ a8 t,ax⟩) (by repeat' (first | exact gA _ _ | exact eQ _ | exact fun _ _ _ ⟨m,a7,a8⟩ t=>⟨m,a7,a8.keep t (fun a k=>(ay a k).2)⟩| exact fun _ _ _ ⟨x,m,a7,a8,ax,df⟩ t=>⟨x,m,a7,t.bk a8 ax,ax,df.keep t (fun a k=>(ay a k).2)⟩|(refine zAe.2 ⟨?_,?_⟩)|(intro d a4;cases a4))) ?_ ?_
                · refine bJ ?_;refine pH3 4 (.pointer (some ⟨g,0,none⟩)) ?_;refine pH3 7 (.int .i64 (e:Int)) ?_;refine pH3 4 (.pointer (some ⟨g,0,none⟩)) ?_;refine pH3 7 (.int .i64 (e:Int)) ?_;refine pV3 2 66 ?_;refine pV3 4 68 ?_;refine pW3 5 69 3 67 ?_;refine pL3 6 70 (fun o j=>have j:Keep (fun a=>(Value.slice z d A).ownBlock=some a) wr o:=kD j;((j.cell (p:=⟨g,e,none⟩) cj bl).trans bH.out:o.cell? ⟨g,e,none⟩=some (.slice z d A))) ?_;refine pH3 13 (.slice J q K) ?_;refine sC3 (fun _ o j _ _ _ _ w _ _ _ P=>?_) ?_
                  · replace j:Keep (fun a=>(Value.slice z d A).ownBlock=some a) wr o:=kD j;have ec:_=_:=w 8 72 kR rfl;go_simp;have dU:=aA b4.out (fun a O k cb=>j.bk cb (b2.out _ dC a O cb));refine (aDk J q K o.heap.size Q o (Rd.of_own dU) nL cp cq).mono ?_;rintro l e5 ⟨m,rfl,dJ,bf⟩;exact P _ _ (aE bf) ⟨m,rfl,dJ.mono j.size⟩
                  refine pH3 7 (.int .i64 (e:Int)) ?_;refine pH3 12 (.int .i64 (d:Int)) ?_;refine sC3 (fun T o _ _ _ _ _ w _ _ _ P=>?_) ?_
                  · have dX:(fun n s=>∃m,n=.pointer (some ⟨m,0,none⟩)/\TreeB s wr.heap.size m Q) (T (.tmp 73)) o:=w 9 73 kR rfl;have ee:_=_:=w 10 74 kR rfl;have ef:_=_:=w 11 75 kR rfl;obtain ⟨m,ed,dG⟩:=dX;go_simp;exact P _ _ (aE bR) ⟨m,rfl,dG⟩
                  refine sC3 (fun T o j _ _ _ _ w _ _ _ P=>?_) ?_
                  · replace j:Keep (fun a=>(Value.slice z d A).ownBlock=some a) wr o:=kD j;have dY:(fun n s=>∃m,n=.agg #[.pointer (some ⟨m,0,none⟩),(e:Int),(d:Int)]/\TreeB s wr.heap.size m Q) (T (.tmp 76)) o:=w 12 76 kR rfl;obtain ⟨m,eg,dH⟩:=dY;go_simp;exact P _ _ (aE (bR.alloc nL _)) ⟨_,m,rfl,ke _ _ _,fun U=>by have:=(ay _ U).2;have:=j.size;omega,dH.below (bR.alloc nL _)⟩
                  refine sC3 (fun T o j bc _ _ _ w _ _ bd P=>?_) ?_;replace j:Keep (fun a=>(Value.slice z d A).ownBlock=some a) wr o:=kD j;have bq:=bc rfl;have d5:_=_:=w 7 71 kR rfl;have dZ:(fun n s=>∃x m,n=.slice (some ⟨x,0,none⟩) 1 1/\Bk s x 183 #[.pointer (some ⟨m,0,none⟩),(e:Int),(d:Int)]/\(Value.slice z d A).ownBlock≠some x/\TreeB s wr.heap.size m Q) (T (.tmp 77)) o:=w 13 77 kR rfl;obtain ⟨da,m,d6,dq,es,dI⟩:=dZ;subst bd;have bw:W.heap.size<=o.heap.size:=zAk cs j.size;refine eB o (.tmp 71) (.tmp 77) _ rfl W.heap.size 183 dS _ 3 24 underlying177 db dc dd de rfl dC (.slice z d A) d (eJ aH e d) d5 bq o.heap.size (some ⟨da,0,none⟩) 1 1 _ d6 (xF dq rfl) (by simp [Value.oneCell']) (by unfold maxLen;omega) oM bw ?_;intro e3 r Y a0 a2;have cz:Keep (fun a=>(Value.slice z d A).ownBlock=some a) o r:=⟨a0.os,a0.tape,a0.output,a0.size,fun t aS bn=>a0.block t aS (fun l=>bn l.symm)⟩;exact P _ _ (aT cz) ⟨m,dI.keep cz (fun a k=>(ay a k).2),Y,a2.elim .inl fun l=>.inr ⟨_,l,j.size⟩⟩;refine pV3 0 64 ?_;refine pV3 15 79 ?_;refine pW3 16 80 1 65 ?_;exact aC
                · intro T r B j w;replace j:Keep (fun a=>(Value.slice z d A).ownBlock=some a) wr r:=kD j;have e0:(fun n s=>∃m,TreeB s wr.heap.size m Q/\s.ownsRow W.heap.size 183 3 n (d+1) (eJ aH e d++ [.pointer (some ⟨m,0,none⟩),.int .i64 (e:Int),.int .i64 (d:Int)])/\(n.ownBlock=(Value.slice z d A).ownBlock∨∃x,n.ownBlock=some x/\wr.heap.size<=x)) (T (.tmp 78)) r:=w 14 78 dC rfl;have d8:T (.tmp 81)=.pointer (some ⟨g,e,none⟩):=w 17 81 dC rfl;simp only [zqq];rw [d8];clear w;obtain ⟨m,cv,Y,a2⟩:=e0;obtain ⟨E,G,d7,_,_⟩:=aW Y;rw [d7] at Y a2⊢;have cH:=lhd a2;clear a2;have aa:=j.bk ap.out bl;have e8:r.cell? ⟨g,e,none⟩=some (.slice z d A):=(j.cell (p:=⟨g,e,none⟩) cj bl).trans bH.out;have ei:=aa.frozen e;obtain ⟨aY,cU,cX⟩:=hqq3 aa Y cv;have el:=aa.lt;clear aa Y cv;change wpAny prog Region.Mode.any _ _ (1+B) (bX 18 19) _ r;rw [zCs 1 B];refine bQ (f:=B) (i:=18) kR ?_;refine bY rfl rfl ?_;generalize P:wpAny prog _ _ _ B _=b8;go_simp;subst P;refine bV kR ?_;have aG:Keep (fun a=>a=g) r (r.setCell ⟨g,e,none⟩ (.slice E (d+1) G)):=ka (F:=fun a=>a=g) (kf _ _) (p:=⟨g,e,none⟩) (.inl rfl) _;have aV:∀Z,180≠Z->∀a O,Bk r a Z O->Bk (r.setCell ⟨g,e,none⟩ (.slice E (d+1) G)) a Z O:=fun Z bv a O k=>k.far (fun l=>Bk.ne aY.out k bv l.symm) _;have cA:Keep (fun a=>a=g) y (r.setCell ⟨g,e,none⟩ (.slice E (d+1) G)):=(cS.out.trans' j (fun a k B=>by have:=(ay a B).1;omega)).trans aG;have bZ:=cN.out.same (w':=r.setCell ⟨g,e,none⟩ (.slice E (d+1) G)) (fun a O k=>aV _ dC _ _ (j.bk k (b2.out _ dC a O k))) (fun a O k=>aV _ dC _ _ (j.bk k (b2.out _ dC a O k)));have aK:=aY.out.set e (.slice E (d+1) G);rw [aD0 _ _ _ e aU] at aK
                  have c3:(fun bx=>if bx=e then Value.slice E (d+1) G else if bx=e then Value.slice z d A else S bx)=(fun i=>if i=e then Value.slice E (d+1) G else S i):=by
                     funext i;by_cases l:i=e
                     · rw [zBx l,zBx l]
                     · rw [zBw l,zBw l,zBw l]
                  rw [c3] at aK;have bz:Keep (fun a=>(Value.slice z d A).ownBlock=some a∨a=g) wr (r.setCell ⟨g,e,none⟩ (.slice E (d+1) G)):=(j.mono fun a _ B=>.inl B).trans (aG.mono fun a _ B=>.inr B);have dF:r.heap.size=(r.setCell ⟨g,e,none⟩ (.slice E (d+1) G)).heap.size:=(by simp [World.setCell]);have bp:=aA (w':=r.setCell ⟨g,e,none⟩ (.slice E (d+1) G)) cU.out fun a O _ k=>aV _ dC _ _ k;have cD:ShelfE (r.setCell ⟨g,e,none⟩ (.slice E (d+1) G)) (zP a6 wr.heap.size (Value.slice E (d+1) G).ownBlock (r.setCell ⟨g,e,none⟩ (.slice E (d+1) G)).heap.size (TC e d)) W.heap.size (.slice E (d+1) G) u e (d+1):=(by refine ShelfE.next (H:=fun a=>(Value.slice z d A).ownBlock=some a∨a=g) aU (by rw [b3.out];exact ah) bT.out cZ.out cY.out (fun a k=>(bO.out a k).2) bz (fun a B=>?_) ?_ bp cH.out;rcases B with B | B;exact cQ.out a B;subst B;exact ⟨_,_,ap.out,.inl rfl⟩;rw [b5.out];exact cX.out.own.keepT aG fun a l=>⟨_,_,(show a=g from l)▸ aY.out,.inl rfl⟩);have cB:∀a,a < y.heap.size->zP a6 wr.heap.size (Value.slice E (d+1) G).ownBlock (r.setCell ⟨g,e,none⟩ (.slice E (d+1) G)).heap.size (TC e d) a=lM a:=fun a k=>by unfold zP;rw [zBx (by have:=ad.out.size;omega)];exact cT.out a k
                  have c0:=aIz (v:=(Value.slice E (d+1) G).ownBlock) (c:=TC e d) bO.out bz.size oM (fun a k=>(bp.lt a k).2);obtain ⟨b8,d0⟩:=hqq2 cB c0;clear cB c0 bp bz dF;have e1:W.heap.size<=(r.setCell ⟨g,e,none⟩ (.slice E (d+1) G)).heap.size:=zAk cs (zAk j.size aG.size);obtain ⟨av,aw,b6,b7⟩:=hqq4 cA bZ aK cD;clear aG aV cA bZ aK cD c3;go_wp2_with fail;go_roundw
                  case rel=>exact ⟨d+1,_,by omega,by go_num,aw.out,av.out,e1,b6.out,_,b8.out,d0.out,b7.out⟩
                  case measure=>simp [intOf];omega
              · have dD:d=C:=oM;subst dD;have c6:Below D.heap.size D wr:=aq.out.trans (al.to_below aq.out.size (fun a k l=>by have:=aJ.out;omega));have dk:aj.heap.size<=wr.heap.size:=zAk dj al.size;have cr:RowsE wr a6 D.heap.size g (fun i=>if i=e then n else S i) u (e+1):=(by have dt:g < y.heap.size:=aI.out.lt;refine ⟨aR,by rw [aD g dt];exact au.out.gv2,fun i bm=>?_⟩;show ShelfE wr a6 D.heap.size (if i=e then n else S i) u i (2 ^ i);by_cases l:i=e;subst l;rw [zBx rfl,b3.out];exact bt.mono dM fun _ _ _=>rfl;rw [zBw l];exact ((au.out.rows i oM).keepW al aI.out).mono nL fun a _ dA=>aD a (au.out.bnd a dA).2);have co:∀i,e+1<=i->(if i=e then n else S i)=.slice none 0 0:=(by intro i bm;rw [zBw oM];exact bS.out i oM);obtain ⟨av,aw,b6,b7⟩:=hqq4 c6 cr co X;clear c6 cr co X ak al bt aD aR;go_wp2_with fail;go_roundw
                case rel=>exact ⟨e+1,by omega,by go_num,av.out,dk,_,a6,b7.out,aw.out,b6.out⟩
                case measure=>simp [intOf];omega
        · have dz:e=9:=oM;subst dz;have cf:WaveE wr D.heap.size lM g u:=⟨S,0,by rw [ar.out];exact aO,⟨by have:=aJ.out;omega,an.gv2⟩,fun i bm=>an.rows i bm,an.bnd⟩;obtain ⟨av,aw⟩:=hqq2 cf af;clear cf af aO an bo;go_wp2_with fail;go_ret2;exact ⟨g,lM,rfl,av.out,aw.out⟩
def aCz {a c} (d:IsSuf (aJ a) c):c[0]?=some a.length:=by
 obtain ⟨o,l,m⟩:=eP a;obtain ⟨j,g,f⟩:=d.row (p:=a.length) oM;rcases zBa j with e | e
 · subst e;rw [zAa g,f]
 · exfalso;have b:=zAr.1 d.sorted 0 j oM g e;rw [f] at b;have n:=d.lt (zBj (show 0 < c.length by omega));have q:c[0]' oM≠a.length:=fun k=>by exact (zAr.1 d.nodup 0 j oM g e) (by rw [k,f])
   rw [iW,fH (by omega:a.length < (aJ a).length),fH n,l] at b;have:=m (c[0]' oM) oM;rcases b with b | b;omega;omega
def vX {n c} (d:IsSuf n c) {i b k:Nat} (l:c[i]?=some k) (m:c[b]?=some k):i=b:=by
 obtain ⟨e,f⟩:=zAc.1 l;obtain ⟨g,j⟩:=zAc.1 m;rcases Nat.lt_trichotomy i b with a | a | a;exact absurd (by rw [f,j]) (zAr.1 d.nodup i b e g a);exact a;exact absurd (by rw [f,j]) (zAr.1 d.nodup b i g e a)
end
section
def aEX {a:List Nat} (k:a.Nodup) {x:Nat} (m:x∈a) {c d:Nat->Bool} (j:∀b∈a,b≠x->c b=d b):a.countP c+(if d x then 1 else 0)=a.countP d+(if c x then 1 else 0):=by
 have f:=List.perm_cons_erase m;have l:=f.nodup_iff.1 k;have e:(a.erase x).countP c=(a.erase x).countP d:=List.countP_congr fun b g=>by rw [j b (List.mem_of_mem_erase g) (fun e=>(List.nodup_cons.1 l).1 (e ▸ g))]
 rw [f.countP_eq,f.countP_eq,zBn,zBn,e];omega
def aKX {R} (d:R.Nodup) {a} (e:a∈R):R.countP (fun f=>decide (ro R f < ro R a))=ro R a:=by
 have b:=aAu d (ro R a) (fun _=>true);have c:(R.take (ro R a)).countP (fun _=>true)=(R.take (ro R a)).length:=List.countP_eq_length.2 fun _ _=>rfl;rw [c,zAj] at b;have g:ro R a < R.length:=List.idxOf_lt_length_iff.2 e;rw [zCt oM] at b;simp only [Bool.true_and] at b;exact b.symm
def aJl (c d b:Nat):Nat:=let a:=if d < b then c - 1 else c;if b<=a then a+1 else a
section
variable {S R : List Nat} {N i : Nat}
def aII (c:Near S R N (i+2)) (B:i+1 < N):(if S.getD (i+1) 0=S.getD i 0 then aJl (cL (aH S R) (S.getD i 0) (ro R (i+1))) (ro R (i+2)) (ro R (i+1)) else cL (aH S R) (S.getD i 0) (ro R (i+1)))=ro R i/\
 (S.getD (i+1) 0=S.getD i 0->ro R (i+2) < ro R (i+1)->0 < cL (aH S R) (S.getD i 0) (ro R (i+1))):=by
 have t:=c.nodup;have l:∀a,a<=N->a∈R:=fun a m=>c.mem.2 m;have n:∀a e,a<=N->e<=N->a≠e->ro R a≠ro R e:=fun a e m v u g=>u (fC (l a m) (l e v) g);have r:=c.endk.pos i oM;rw [rU c.endk c.perm r];have p:(List.range (N+1)).countP (fun a=>decide (ro R a < ro R i))=ro R i:=by rw [<-c.perm.countP_eq];exact aKX t (l i oM)
 have q:∀d∈List.range (N+1),d≠i+1->decide (ro R d < ro R i)=decide (S.getD d 0 < S.getD i 0∨(S.getD d 0=S.getD i 0/\ro R (d+1) < ro R (i+1))):=fun d w E=>by rw [zCj] at w;rw [decide_eq_decide];by_cases o:d=i;subst o;omega;exact c.cons d i oM oM o oM oM
 have b:=aEX List.nodup_range (x:=i+1) (by simp;omega) q;rw [p] at b;unfold aBh;generalize D:List.countP (fun a=>decide (S.getD a 0 < S.getD i 0∨(S.getD a 0=S.getD i 0/\ro R (a+1) < ro R (i+1)))) (List.range (N+1))=n0 at b⊢;have C:=n i (i+1) oM oM oM;have A:=n (i+2) (i+1) oM oM oM;have y:=c.first (i+1) i oM oM;have z:=c.first i (i+1) oM oM;simp only [zCa,show i+1+1=i+2 by omega] at b;by_cases k:S.getD (i+1) 0=S.getD i 0
 · have j:(S.getD (i+1) 0 < S.getD i 0∨(S.getD (i+1) 0=S.getD i 0/\ro R (i+2) < ro R (i+1)))↔ro R (i+2) < ro R (i+1):=oM;simp only [j] at b;rw [zBx k];unfold aJl;refine ⟨?_,fun _ s=>?_⟩
   · by_cases f:ro R (i+2) < ro R (i+1)
     · rw [zBx f] at b;simp only [zBx f];split at b <;> split <;> omega
     · rw [zBw f] at b;simp only [zBw f];split at b <;> split <;> omega
   · rw [zBx s] at b;split at b <;> omega
 have j:(S.getD (i+1) 0 < S.getD i 0∨(S.getD (i+1) 0=S.getD i 0/\ro R (i+2) < ro R (i+1)))↔ro R (i+1) < ro R i:=oM;simp only [j] at b;rw [zBw k];exact ⟨by omega,fun g=>absurd g k⟩
def sh (b a:Nat):Nat:=if a < b then a else a+1
def aEh {b c d} (a:sh b c=sh b d):c=d:=by unfold sh at a;split at a <;> split at a <;> omega
def aAx (a b):sh a b≠a:=by unfold sh;split <;> omega
def mK {b a} (e:a≠b):∃d,sh b d=a:=by
 by_cases c:a < b;exact ⟨a,by unfold sh;rw [zBx c]⟩;exact ⟨a - 1,by unfold sh;rw [zBw oM];omega⟩
def mT (b) {c} (d) (e:c<=b.length) (a):(aV b c d).getD a 0=if a < c then b.getD a 0 else if a=c then d else b.getD (a - 1) 0:=by
 rw [zAb,jI b d e];split
 · rw [zAb]
 · split;rfl
   · rw [zAb]
def aKn (a) {c} (d:c < a.length) (b):(aF a c).getD b 0=if b < c then a.getD b 0 else a.getD (b+1) 0:=by
 rw [zAb,eH a d];split
 · rw [zAb]
 · rw [zAb]
def mS (c) {b} (e a) (f:b<=c.length):(aV c b e).getD (sh b a) 0=c.getD a 0:=by
 rw [mT c e f];by_cases d:a < b
 · rw [show sh b a=a by unfold sh;rw [zBx d],zBx d]
 · rw [show sh b a=a+1 by unfold sh;rw [zBw d],zBw oM,zBw oM,zBb]
def xS (b) {a} (c) (d:a<=b.length):(aV b a c).getD a 0=c:=by
 rw [mT b c d,zBw oM,zBx rfl]
def aIh {R} (l:R.Nodup) {at_ row} (n:row<=R.length):ro (aV (R.map (sh at_)) row at_) at_=row/\(∀a∈R,ro (aV (R.map (sh at_)) row at_) (sh at_ a)=inR (ro R a) row)/\(aV (R.map (sh at_)) row at_).Nodup:=by
 have e:row<=(R.map (sh at_)).length:=by simpa using n
 have b:(aV (R.map (sh at_)) row at_).Nodup:=by rw [(fN _ _ _).nodup_iff,List.nodup_cons];refine ⟨fun k=>?_,List.pairwise_map.2 (l.imp fun g j=>g (aEh j))⟩;obtain ⟨a,_,f⟩:=zAy.1 k;exact aAx _ _ f
 refine ⟨gJ b ?_,fun a m=>gJ b ?_,b⟩
 · rw [jI _ _ e,zBw oM,zBx rfl]
 rw [jI _ _ e];have d:=cE m;unfold inR;by_cases c:row<=ro R a;rw [zBx c,zBw oM,zBw oM,zBb,zAf,d];rfl;rw [zBw c,zBx oM,zAf,d];rfl
def aKi (f:EndOk S N) {a c} (k:a<=N) (g:0 < c):EndOk (aV S a c) (N+1):=by
 obtain ⟨d,e,b⟩:=f;refine ⟨by rw [gO _ _ oM,d],?_,fun j l=>?_⟩
 · rw [mT _ _ oM,zBw oM,zBw oM,zBb,e]
 rw [mT _ _ oM];split;exact b j oM;split;exact g;exact b _ oM
def aIx {R:List Nat} (c:R.Perm (List.range (N+1))) {a:Nat} (row:Nat) (n:a<=N):(aV (R.map (sh a)) row a).Perm (List.range (N+1+1)):=by
 refine (List.perm_ext_iff_of_nodup ?_ List.nodup_range).2 fun m=>?_;rw [(fN _ _ _).nodup_iff,List.nodup_cons];refine ⟨fun k=>?_,List.pairwise_map.2 ((c.nodup_iff.2 List.nodup_range).imp fun g j=>g (aEh j))⟩;obtain ⟨d,_,f⟩:=zAy.1 k;exact aAx _ _ f
 · rw [(fN _ _ _).mem_iff,List.mem_cons,zAy,zCj];constructor
   · rintro (rfl |⟨d,l,rfl⟩);omega
     · have:=zCj.1 (c.mem_iff.1 l);unfold sh;split <;> omega
   · intro e;by_cases b:m=a;exact .inl b
     · obtain ⟨d,rfl⟩:=mK b;refine .inr ⟨d,c.mem_iff.2 (zCj.2 ?_),rfl⟩;unfold sh at e b;split at e <;> omega
def aIK (a2:IsSuf S R) (r:EndOk S N) {c s} (u:c<=N) (Y:0 < s):cL (aH S R) s (ro R c)<=R.length/\Near (aV S c s) (aV (R.map (sh c)) (cL (aH S R) s (ro R c)) c) (N+1) c:=by
 have m:=a2.near r;have H:=m.nodup;have l:∀d,d<=N->d∈R:=fun d n=>m.mem.2 n;obtain ⟨row,X⟩:=eqx (cL (aH S R) s (ro R c));have Q:R.countP (fun d=>decide (S.getD d 0 < s∨(S.getD d 0=s/\ro R (d+1) < ro R c)))=row:=by rw [<-X,rU r m.perm Y,m.perm.countP_eq];rfl
 rw [X];have T:row<=R.length:=by rw [<-Q];exact zBh
 have A:∀d,d<=N->(decide (S.getD d 0 < s∨(S.getD d 0=s/\ro R (d+1) < ro R c))=true↔ro R d < row):=fun d n=>by rw [<-Q];refine aA9 (K:=fun d=>decide (S.getD d 0 < s∨(S.getD d 0=s/\ro R (d+1) < ro R c))) ?_ _ _ (cE (l d n));rw [zAr];intro w x M P aa k;have a7:ro R R[w]=w:=gJ H (zAa M);have a8:ro R R[x]=x:=gJ H (zAa P);have a3:R[w]<=N:=m.mem.1 (zBj M);have a4:R[x]<=N:=m.mem.1 (zBj P);have z:=(m.cons R[w] R[x] a3 a4 (fun j=>by rw [j,a8] at a7;omega) oM oM).1 oM;unfold tW at z;rw [zCa] at k⊢;omega
 obtain ⟨E,q,ab⟩:=aIh H (at_:=c) T;have a9:=r.len;refine ⟨T,aKi r u Y,aIx m.perm row u,fun d v n o g=>?_,fun d v n o W V B=>?_⟩
 · by_cases t:d=c
   · subst t;by_cases p:v=d;subst p;omega
     · obtain ⟨b,rfl⟩:=mK p;have e:b<=N:=(by unfold sh at o;split at o <;> omega);rw [E,q b (l b e)] at g;rw [xS _ _ oM,mS _ _ _ oM];have k:=A b e;rw [zCa] at k;unfold inR at g;split at g <;> omega
   · obtain ⟨a,rfl⟩:=mK t;have f:a<=N:=(by unfold sh at n;split at n <;> omega);by_cases p:v=c
     · subst p;rw [E,q a (l a f)] at g;rw [xS _ _ oM,mS _ _ _ oM];have k:=A a f;rw [zCa] at k;unfold inR at g;split at g <;> omega
     · obtain ⟨b,rfl⟩:=mK p;have e:b<=N:=(by unfold sh at o;split at o <;> omega);rw [q a (l a f),q b (l b e)] at g;rw [mS _ _ _ oM,mS _ _ _ oM];refine m.first a b f e ?_;unfold inR at g;split at g <;> split at g <;> omega
 · have C:∀a,a<=N->sh c a+1≠c->a < N->sh c a+1=sh c (a+1):=fun a f z _=>by unfold sh at z⊢;by_cases Z:a < c <;> by_cases a0:a+1 < c <;> simp only [Z,a0,if_true,if_false] at z⊢<;> omega
   have O:c+1=sh c c:=(by unfold sh;rw [zBw oM]);have D:∀a b,a<=N->b<=N->(ro (aV (R.map (sh c)) row c) (sh c a) < ro (aV (R.map (sh c)) row c) (sh c b)↔ro R a < ro R b):=fun a b f e=>by rw [q a (l a f),q b (l b e)];unfold inR;split <;> split <;> omega
   have y:∀F,F<=N->S.getD F 0≠0->F < N:=fun F a6 U=>Nat.lt_of_le_of_ne a6 fun j=>by subst j;exact U r.last
   unfold tW;by_cases t:d=c
   · subst t;obtain ⟨b,rfl⟩:=mK (fun j=>W j.symm);have e:b<=N:=(by unfold sh at o;split at o <;> omega);rw [E,q b (l b e),xS _ _ oM,mS _ _ _ oM];have k:=A b e;rw [zCa] at k;have g:row < inR (ro R b) row↔¬ro R b < row:=(by unfold inR;split <;> omega);rw [g,<-k];by_cases L:S.getD b 0=s
     · have J:=y b e oM;rw [C b e B J,O,D d (b+1) u oM];have:=fun j=>fC (l (b+1) oM) (l d u) j;have U:ro R (b+1)≠ro R d:=fun j=>by have:=this j;unfold sh at B;split at B <;> omega
       omega
     omega
   · obtain ⟨a,rfl⟩:=mK t;have f:a<=N:=(by unfold sh at n;split at n <;> omega);by_cases p:v=c
     · subst p;rw [E,q a (l a f),xS _ _ oM,mS _ _ _ oM];have k:=A a f;rw [zCa] at k;have g:inR (ro R a) row < row↔ro R a < row:=(by unfold inR;split <;> omega);rw [g,<-k];by_cases L:S.getD a 0=s
       · have I:=y a f oM;rw [C a f V I,O,D (a+1) v oM u]
       omega
     · obtain ⟨b,rfl⟩:=mK p;have e:b<=N:=(by unfold sh at o;split at o <;> omega);have a5:a≠b:=fun j=>W (by rw [j]);rw [D a b f e,mS _ _ _ oM,mS _ _ _ oM,m.cons a b f e a5 oM oM];unfold tW;by_cases L:S.getD a 0=S.getD b 0
       · by_cases a1:S.getD a 0=0;have ac:a=N:=Nat.le_antisymm f (zCr.1 fun G=>by have:=r.pos a G;omega);have ad:b=N:=Nat.le_antisymm e (zCr.1 fun G=>by have:=r.pos b G;omega);omega
         · have I:=y a f a1;have J:=y b e oM;rw [C a f V I,C b e B J,D (a+1) (b+1) oM oM]
       omega
def aGH (r:R.Nodup) (m:R.Perm (List.range (N+1))) (p:EndOk S N) {b s row} (v:b<=N) (y:row<=R.length):aH (aV S b s) (aV (R.map (sh b)) row b)=aV ((aH S R).set (ro R b) s) row (bM S b):=by
 have e:=p.len;have j:(aV S b s).length=N+1+1:=by rw [gO _ _ oM,e]
 have q:∀a,a∈R->a<=N:=fun a t=>by have:=zCj.1 (m.mem_iff.1 t);omega
 have k:b∈R:=m.mem_iff.2 (zCj.2 oM);unfold aH;rw [nX];congr 1
 · apply List.ext_getElem?;intro n;rw [zAf,zAf,zBm,zAf];cases c:R[n]? with
   | none=>
     simp;intro d;subst d;rw [cE k] at c;cases c
   | some a=>
     have x:=q a (zAd c);have l:ro R a=n:=gJ r c;show some (bM (aV S b s) (sh b a))=_;by_cases f:a=b
     · subst f;rw [zBx l,zBx (by simpa using (zAc.1 (l ▸ c)).1)];congr 1;rw [show sh a a=a+1 by unfold sh;rw [zBw oM],bE oM,xS _ _ oM]
     · rw [zBw (fun d=>f (by have g:=cE k;rw [d,c] at g;injection g))];show some _=some (bM S a);congr 1;rcases a with _ | a
       · rw [show sh b 0=0 by unfold sh;rw [zBx oM],bT oM,bT oM,j,e,zBb,zBb,mT _ _ oM,zBw oM,zBw oM,zBb]
       · have o:sh b (a+1)=sh b a+1:=(by unfold sh;split <;> split <;> omega);have w:sh b a+1 < N+1+1:=(by unfold sh;split <;> omega);rw [o,bE oM,bE oM,mS _ _ _ oM]
 · rcases b with _ | u
   · rw [bT oM,bT oM,j,e,zBb,zBb,mT _ _ oM,zBw oM,zBw oM,zBb]
   · rw [bE oM,bE oM,mT _ _ oM,zBx oM]
def aEI {a c b} (d:R[a]?=some b):aH S (aV (aF R a) c b)=aV (aF (aH S R) a) c (bM S b):=by
 unfold aH;rw [nX,sJ]
end
section
variable {S R : List Nat} {N : Nat}
def ush (b a:Nat):Nat:=if a < b then a else a - 1
def aHK (a b):ush a (sh a b)=b:=by
 unfold ush sh
 (repeat' split)<;> omega
def aEg {k a} (b:a≠k):sh k (ush k a)=a:=by
 unfold ush sh
 (repeat' split)<;> omega
def kS (a) {b} (c) (d:b < a.length):(aF a b).getD c 0=a.getD (sh b c) 0:=by
 rw [aKn a d];unfold sh;split <;> rfl
def aKm (d:EndOk S (N+1)) {a} (f:a<=N):EndOk (aF S a) N:=by
 obtain ⟨e,b,c⟩:=d;have g:=dD S (k:=a) oM;refine ⟨by omega,?_,fun l j=>?_⟩;rw [kS _ _ oM];unfold sh;rw [zBw oM];exact b
 · rw [kS _ _ oM];refine c _ ?_;unfold sh;split <;> omega
def aBn (m:R.Perm (List.range (N+1+1))) {b} (t:b<=N):(b::aF R (ro R b)).Perm R/\(aF R (ro R b)).Nodup/\(∀a∈R,a≠b->(aF R (ro R b))[bB (ro R a) (ro R b)]?=some a)/\∀a,a∈aF R (ro R b)↔a∈R/\a≠b:=by
 have r:R.Nodup:=m.nodup_iff.2 List.nodup_range;have l:b∈R:=m.mem_iff.2 (zCj.2 oM);have j:=cE l;have q:=(zAc.1 j).1;have d:=eV j;have f:=d.nodup_iff.2 r;rw [List.nodup_cons] at f;refine ⟨d,f.2,fun a n s=>?_,fun a=>?_⟩;have k:=cE n;have u:ro R a≠ro R b:=fun e=>s (fC n l e);rw [eH _ q];unfold bB;by_cases g:ro R b < ro R a;rw [zBx g,zBw oM,show ro R a - 1+1=ro R a by omega];exact k;rw [zBw g,zBx oM];exact k;constructor;intro c;exact ⟨d.mem_iff.1 (List.mem_cons_of_mem _ c),fun e=>f.1 (e ▸ c)⟩;rintro ⟨o,p⟩;rcases List.mem_cons.1 (d.mem_iff.2 o) with c | c;exact absurd c p;exact c
def aIi (e:R.Perm (List.range (N+1+1))) {at_} (r:at_<=N):((aF R (ro R at_)).map (ush at_)).Perm (List.range (N+1))/\∀a,a<=N->ro ((aF R (ro R at_)).map (ush at_)) a=bB (ro R (sh at_ a)) (ro R at_):=by
 obtain ⟨v,p,q,b⟩:=aBn e r;have g:((aF R (ro R at_)).map (ush at_)).Nodup:=by refine List.pairwise_map.2 (p.imp_of_mem fun {c l} d t s m=>s ?_);have n:=aEg (k:=at_) ((b c).1 d).2;have o:=aEg (k:=at_) ((b l).1 t).2;rw [<-n,<-o,m]
 have f:∀a,a<=N->sh at_ a∈R:=fun a w=>e.mem_iff.2 (zCj.2 (by unfold sh;split <;> omega));refine ⟨(List.perm_ext_iff_of_nodup g List.nodup_range).2 fun j=>?_,fun a u=>?_⟩
 · rw [zAy,zCj];constructor
   · rintro ⟨c,d,rfl⟩;have:=zCj.1 (e.mem_iff.1 ((b c).1 d).1);have:=((b c).1 d).2;unfold ush;split <;> omega
   intro x;exact ⟨sh at_ j,(b _).2 ⟨f j oM,aAx _ _⟩,aHK _ _⟩
 · refine gJ g ?_;rw [zAf,q _ (f a u) (aAx _ _)];show some (ush at_ (sh at_ a))=some a;rw [aHK]
def aIL (x:IsSuf S R) (j:EndOk S (N+1)) {at_} (q:at_<=N):Near (aF S at_) ((aF R (ro R at_)).map (ush at_)) N at_:=by
 have k:=x.near j;have I:=j.len;obtain ⟨w,o⟩:=aIi k.perm q;have l:∀a,a<=N+1->a∈R:=fun a d=>k.mem.2 d;have f:∀a,a<=N->sh at_ a<=N+1:=fun a d=>by unfold sh;split <;> omega
 have m:∀a b,a<=N->b<=N->(ro ((aF R (ro R at_)).map (ush at_)) a < ro ((aF R (ro R at_)).map (ush at_)) b↔ro R (sh at_ a) < ro R (sh at_ b)):=fun a b d e=>by rw [o a d,o b e];have K:ro R (sh at_ a)≠ro R at_:=fun g=>aAx _ _ (fC (l _ (f a d)) (l at_ oM) g);have L:ro R (sh at_ b)≠ro R at_:=fun g=>aAx _ _ (fC (l _ (f b e)) (l at_ oM) g);unfold bB;split <;> split <;> omega
 refine ⟨aKm j q,w,fun a b d e B=>?_,fun a b d e E D F=>?_⟩;rw [kS _ _ oM,kS _ _ oM];exact k.first _ _ (f a d) (f b e) ((m a b d e).1 B)
 · have C:sh at_ a≠sh at_ b:=fun g=>E (aEh g);rw [m a b d e,k.cons _ _ (f a d) (f b e) C oM oM];unfold tW;rw [kS _ _ oM,kS _ _ oM];by_cases H:S.getD (sh at_ a) 0=S.getD (sh at_ b) 0
   · by_cases n:S.getD (sh at_ a) 0=0;have u:∀c,c<=N+1->S.getD c 0=0->c=N+1:=fun c s t=>Nat.le_antisymm s (zCr.1 fun A=>by have:=j.pos c A;omega);have M:=u _ (f a d) n;have O:=u _ (f b e) oM;omega
     · have r:∀c,c<=N->c+1≠at_->S.getD (sh at_ c) 0≠0->c < N/\sh at_ c+1=sh at_ (c+1):=fun c s J t=>by have y:sh at_ c≠N+1:=fun g=>t (by rw [g];exact j.last);have z:c < N:=(by rcases zBe c N with p | p;exact p;exfalso;apply y;unfold sh;rw [zBw oM];omega);refine ⟨z,?_⟩;unfold sh;split <;> split <;> omega
       obtain ⟨G,v⟩:=r a d D n;obtain ⟨b1,b2⟩:=r b e F oM;rw [v,b2,m (a+1) (b+1) oM oM]
   omega
def aGI (e:R.Perm (List.range (N+1+1))) (s:EndOk S (N+1)) {at_} (A:at_<=N):aH (aF S at_) ((aF R (ro R at_)).map (ush at_))=aF ((aH S R).set (ro R (at_+1)) (bM S at_)) (ro R at_):=by
 have w:R.Nodup:=e.nodup_iff.2 List.nodup_range;have z:=s.len;have B:=dD S (k:=at_) oM;have v:∀a,a∈R->a<=N+1:=fun a g=>by have:=zCj.1 (e.mem_iff.1 g);omega
 have r:at_∈R:=e.mem_iff.2 (zCj.2 oM);have n:at_+1∈R:=e.mem_iff.2 (zCj.2 oM);have o:=(zAc.1 (cE r)).1;have x:∀a,a<=N+1->a≠at_->bM (aF S at_) (ush at_ a)=if a=at_+1 then bM S at_ else bM S a:=fun a C p=>by
  by_cases b:a=at_+1
  · subst b;rw [zBx rfl,show ush at_ (at_+1)=at_ by unfold ush;rw [zBw oM];omega];rcases at_ with _ | y;rw [bT oM,bT oM,kS _ _ oM];unfold sh;rw [zBw oM];congr 1;omega
    · rw [bE oM,bE oM,kS _ _ oM];unfold sh;rw [zBx oM]
  · rw [zBw b];rcases a with _ | a;rw [show ush at_ 0=0 by unfold ush;split <;> omega,bT oM,bT oM,kS _ _ oM];unfold sh;rw [zBw oM];congr 1;omega
    · by_cases m:a+1 < at_
      · rw [show ush at_ (a+1)=a+1 by unfold ush;rw [zBx m],bE oM,bE oM,kS _ _ oM];unfold sh;rw [zBx oM]
      · obtain ⟨f,rfl⟩:∃f,a=f+1:=⟨a - 1,by omega⟩;rw [show ush at_ (f+1+1)=f+1 by unfold ush;rw [zBw m];omega,bE oM,bE oM,kS _ _ oM];unfold sh;rw [zBw oM]
 unfold aH;rw [zCh];apply List.ext_getElem?;intro l;have u:ro R at_ < ((R.map (bM S)).set (ro R (at_+1)) (bM S at_)).length:=by simpa using o
 rw [zAf,eH _ o,eH _ u];have q:∀i,i≠ro R at_->Option.map (bM (aF S at_)∘ ush at_) R[i]?=((R.map (bM S)).set (ro R (at_+1)) (bM S at_))[i]?:=fun i t=>by
  rw [zBm,zAf];cases c:R[i]? with
  | none=>
    have:¬ro R (at_+1)=i:=fun d=>by rw [<-d,cE n] at c;cases c
    rw [zBw this];rfl
  | some a=>
    have g:=zAd c;have j:=gJ w c;have p:a≠at_:=fun d=>t (by rw [<-j,d]);show some (bM (aF S at_) (ush at_ a))=_;rw [x a (v a g) p];by_cases b:a=at_+1
    · subst b;rw [zBx rfl,zBx j,zBx (by rw [j];simpa using (zAc.1 c).1)]
    rw [zBw b,zBw (fun d=>b ?_)];rfl;rw [<-d,cE n] at c;injection c with c;exact c.symm
 by_cases b:l < ro R at_;rw [zBx b,zBx b];exact q l oM;rw [zBw b,zBw b];exact q (l+1) oM
def aHR {c:List Nat} {a b s:Nat} (l:a < c.length) (m:a≠b):((aF (c.set b s) a).take (bB b a)).count s+(if a < b/\c.getD a 0=s then 1 else 0)=(c.take b).count s:=by
 have g:(c.set b s).take b=c.take b:=by
  apply List.ext_getElem?;intro o;rw [zBs,zBs];split
  · rw [zBm,zBw oM]
  rfl
 unfold bB;by_cases d:a < b
 · rw [zBx d];have j:(aF (c.set b s) a).take (b - 1)=aF (c.take b) a:=(by unfold aF;have e:((c.set b s).take a).length=a:=(by rw [zAj,zAt];omega);rw [List.take_append,e,List.take_take,Nat.min_eq_right oM,<-g,List.take_take,zCt oM,List.drop_take];congr 2;omega);rw [j];have n:a < (c.take b).length:=(by rw [zAj];omega);have k:(c.take b)[a]?=some (c.getD a 0):=(by rw [zBs,zBx d,zAb,zAa l];rfl);have:=(eV k).count_eq s;rw [<-this,List.count_cons];by_cases f:c.getD a 0=s
   · simp [d,f]
   · simp [d,f]
 · rw [zBw d,zBw oM,zBq];unfold aF;have e:((c.set b s).take a).length=a:=(by rw [zAj,zAt];omega);rw [List.take_append,e,show b - a=0 by omega,List.take_zero,List.append_nil,List.take_take,zCt oM,g]
end
section
variable {S R : List Nat} {N : Nat}
def aJW (l:EndOk S N) {a c} (p:a < N) (n:0 < c):EndOk (S.set a c) N:=by
 obtain ⟨g,j,k⟩:=l;have f:∀b,(S.set a c).getD b 0=if a=b/\b < S.length then c else S.getD b 0:=fun b=>by
  rw [zAb,zBm,zAb];by_cases d:a=b
  · subst d;by_cases e:a < S.length
    · simp [e]
    · simp [e]
  · simp [d]
 refine ⟨by rw [zAt,g],?_,fun o m=>?_⟩
 · rw [f,zBw oM,j]
 rw [f];split;exact n;exact k o m
def aH8 (S:List Nat) {a s:Nat} (e:a < S.length) (b:Nat):(S.set a s).getD b 0=if b=a then s else S.getD b 0:=by
 rw [zAb,zBm,zAb];by_cases c:b=a
 · subst c;simp [e]
 · rw [zBw (fun d=>c d.symm),zBw c]
def KS (S R:List Nat) (c b a:Nat):Bool:=decide (S.getD a 0 < b∨(S.getD a 0=b/\ro R (a+1) < ro R (c+1)))
def aCQ (M:IsSuf S R) (n:EndOk S (N+1)) {c j} (Z:c<=N) (U:0 < j) {row} (a0:row<=N+1) (v:∀b,b<=N+1->b≠c->b+1≠c->(bB (ro R b) (ro R c) < row↔KS S R c j b=true)) (F:∀b,b+1=c->(bB (ro R b) (ro R c) < row->S.getD b 0<=j)/\(row<=bB (ro R b) (ro R c)->j<=S.getD b 0)):
 Near (S.set c j) (aV (aF R (ro R c)) row c) (N+1) c:=by
 have m:=M.near n;have Y:=n.len;have P:=m.nodup;have l:∀a,a<=N+1->a∈R:=fun a d=>m.mem.2 d;have y:=m.len;have D:∀a b,a<=N+1->b<=N+1->a≠b->ro R a≠ro R b:=fun a b d e A q=>A (fC (l a d) (l b e) q);obtain ⟨K,E,u⟩:=vY P (t:=row) (cE (l c oM)) oM;obtain ⟨k,O⟩:∃k,aV (aF R (ro R c)) row c=k:=⟨_,rfl⟩;rw [O] at K E u⊢;have r:∀a b,a<=N+1->b<=N+1->a≠c->b≠c->(ro k a < ro k b↔ro R a < ro R b):=fun a b d e o J=>by rw [u a (l a d) o,u b (l b e) J];have w:=D a c d oM o;have X:=D b c e oM J;unfold inR bB;split <;> split <;> split <;> split <;> omega
 have I:∀a,a<=N+1->a≠c->(ro k a < ro k c↔bB (ro R a) (ro R c) < row):=fun a d o=>by rw [E,u a (l a d) o];unfold inR;split <;> omega
 have H:∀a,a<=N+1->a≠c->(ro k c < ro k a↔¬bB (ro R a) (ro R c) < row):=fun a d o=>by rw [E,u a (l a d) o];unfold inR;split <;> omega
 have x:=aH8 S (s:=j) (show c < S.length by omega);refine ⟨aJW n oM U,K.trans m.perm,fun a b d e C=>?_,fun a b d e A a1 a2=>?_⟩;rw [x,x];by_cases g:a=c;subst g;rw [zBx rfl];by_cases f:b=a;rw [zBx f];exact zAs _;rw [zBw f];have w:=(H b e f).1 C;by_cases p:b+1=a;exact (F b p).2 oM;have:=v b e f p;unfold KS at this;rw [zCa] at this;omega;rw [zBw g];by_cases f:b=c;subst f;rw [zBx rfl];have w:=(I a d g).1 C;by_cases p:a+1=b;exact (F a p).1 w;have:=(v a d g p).1 w;unfold KS at this;rw [zCa] at this;omega;rw [zBw f];exact m.first a b d e ((r a b d e g f).1 C)
 · have z:∀B,B<=N+1->S.getD B 0≠0->B < N+1:=fun B V W=>Nat.lt_of_le_of_ne V fun q=>by subst q;exact W n.last
   unfold tW;rw [x,x];by_cases g:a=c;subst g;have f:b≠a:=fun q=>A q.symm;rw [zBx rfl,zBw f,H b e f,v b e f oM];unfold KS;rw [zCa];by_cases G:S.getD b 0=j;have T:=z b e oM;rw [r (a+1) (b+1) oM oM oM oM];have:=D (b+1) (a+1) oM oM oM;omega;omega
   · rw [zBw g];by_cases f:b=c
     · subst f;rw [zBx rfl,I a d g,v a d g oM];unfold KS;rw [zCa];by_cases G:S.getD a 0=j
       · have Q:=z a d oM;rw [r (a+1) (b+1) oM oM oM oM]
       omega
     · rw [zBw f,r a b d e g f,m.cons a b d e A oM oM];unfold tW;by_cases G:S.getD a 0=S.getD b 0
       · by_cases L:S.getD a 0=0;have a3:a=N+1:=Nat.le_antisymm d (zCr.1 fun y=>by have:=n.pos a y;omega);have a4:b=N+1:=Nat.le_antisymm e (zCr.1 fun y=>by have:=n.pos b y;omega);omega
         · have Q:=z a d L;have T:=z b e oM;rw [r (a+1) (b+1) oM oM oM oM]
       omega
def aLd (J:IsSuf S R) (V:EndOk S (N+1)) {a s} (M:a<=N):(∀b,b<=N+1->b≠a->(bB (ro R b) (ro R a) < (aF R (ro R a)).countP (KS S R a s)↔KS S R a s b=true))/\(aF R (ro R a)).countP (KS S R a s)<=N+1:=by
 have f:=J.near V;have a5:=f.nodup;have o:∀d,d<=N+1->d∈R:=fun d q=>f.mem.2 q;obtain ⟨H,u,v,I⟩:=aBn f.perm M;have A:∀d b,d<=N+1->b<=N+1->d≠b->ro R d≠ro R b:=fun d b q r X m=>X (fC (o d q) (o b r) m);have C:∀ {e c:Nat},(aF R (ro R a))[e]?=some c->c<=N+1/\c≠a/\e=bB (ro R c) (ro R a):=fun {e c} g=>by have k:=(I c).1 (zAd g);refine ⟨f.mem.1 k.1,k.2,?_⟩;have L:=v c k.1 k.2;obtain ⟨w,x⟩:=zAc.1 g;obtain ⟨y,z⟩:=zAc.1 L;rcases Nat.lt_trichotomy e (bB (ro R c) (ro R a)) with b | b | b;exact absurd (by rw [x,z]) (zAr.1 u _ _ w y b);exact b;exact absurd (by rw [x,z]) (zAr.1 u _ _ y w b)
 have Y:(aF R (ro R a)).Pairwise fun d b=>KS S R a s b=true->KS S R a s d=true:=by
  rw [zAr];intro e t O P a4 n;obtain ⟨c,g⟩:=eqx ((aF R (ro R a))[e]);obtain ⟨j,B⟩:=eqx ((aF R (ro R a))[t]);have T:(aF R (ro R a))[e]?=some c:=by rw [zAa O,g]
  have U:(aF R (ro R a))[t]?=some j:=by rw [zAa P,B]
  rw [g];rw [B] at n;obtain ⟨D,a1,E⟩:=C T;obtain ⟨F,a2,G⟩:=C U;have a6:=A c a D oM a1;have a7:=A j a F oM a2;have W:ro R c < ro R j:=by unfold bB at E G;split at E <;> split at G <;> omega
  have a0:c≠j:=fun m=>by subst m;omega
  have Q:=(f.cons c j D F a0 oM oM).1 W;unfold tW at Q;unfold KS at n⊢;rw [zCa] at n⊢;omega
 refine ⟨fun b r Z=>(aA9 Y _ _ (v b (o b r) Z)).symm,?_⟩;have a3:=zBh (p:=KS S R a s) (l:=aF R (ro R a));have K:=H.length_eq;rw [zCg,f.len] at K;omega
def aLe (p:IsSuf S R) (g:EndOk S (N+1)) {a b} (r:a<=N) (w:0 < b):(aF R (ro R a)).countP (KS S R a b)+(if S.getD a 0 < b then 1 else 0)=(aH S R).countP (fun x=>decide (x < b))+(((aF ((aH S R).set (ro R (a+1)) b) (ro R a)).take (bB (ro R (a+1)) (ro R a))).count b+if ro R a < ro R (a+1)/\bM S a=b then 1 else 0):=by
 have d:=p.near g;have B:=d.nodup;have f:∀c,c<=N+1->c∈R:=fun c v=>d.mem.2 v;obtain ⟨m,y,z,A⟩:=aBn d.perm r;have j:=cE (f a oM);have t:ro R a < (aH S R).length:=by rw [bW];exact (zAc.1 j).1
 have u:ro R a≠ro R (a+1):=fun n=>by have:=fC (f a oM) (f (a+1) oM) n;omega
 have q:(aH S R).getD (ro R a) 0=bM S a:=by unfold aH;rw [zAb,zAf,j];rfl
 have l:=aHR (s:=b) t u;rw [q] at l;rw [l];have k:=rU g d.perm w (ro R (a+1));unfold cL at k;rw [k];unfold aBh;rw [<-d.perm.countP_eq,<-m.countP_eq,zBn];have o:(aF R (ro R a)).countP (fun c=>decide (S.getD c 0 < b∨(S.getD c 0=b/\ro R (c+1) < ro R (a+1))))=(aF R (ro R a)).countP (KS S R a b):=rfl;rw [o];congr 1;by_cases e:S.getD a 0 < b
 · rw [zBx e,zBx (zBz (.inl e))]
 rw [zBw e,zBw];rw [zCa];omega
def aJV (n:IsSuf S R) (l:EndOk S (N+1)) {c s} (r:c<=N) (x:0 < s) {n0 row a} (E:a=if c=0 then -1 else ((bB (ro R (c - 1)) (ro R c):Nat):Int)) (O:n0+(if S.getD c 0 < s then 1 else 0)=(aH S R).countP (fun K=>decide (K < s))+((aF ((aH S R).set (ro R (c+1)) s) (ro R c)).take (bB (ro R (c+1)) (ro R c))).count s) (o:row=if bM S c=s/\a<=(n0:Int) then n0+1 else n0):
 row<=N+1/\Near (S.set c s) (aV (aF R (ro R c)) row c) (N+1) c:=by
 have B:=n.near l;have t:∀d,d<=N+1->d∈R:=fun d f=>B.mem.2 f;have D:=l.len;have u:∀d b,d<=N+1->b<=N+1->d≠b->ro R d≠ro R b:=fun d b f g w e=>w (fC (t d f) (t b g) e);obtain ⟨p,y⟩:=aLd (s:=s) n l r;have F:=aLe n l r x;obtain ⟨m,H⟩:=eqx ((aF R (ro R c)).countP (KS S R c s));rw [H] at p y F;have hrel:n0+(if ro R c < ro R (c+1)/\bM S c=s then 1 else 0)=m:=oM;have G:(row=m)∨(∃b,b+1=c/\S.getD b 0=s/\bB (ro R b) (ro R c)=m/\row=m+1):=by
  by_cases k:bM S c=s
  · have v:c≠0:=fun e=>by subst e;rw [bT oM,D,zBb,l.last] at k;omega
    obtain ⟨b,rfl⟩:∃b,c=b+1:=⟨c - 1,by omega⟩;rw [bE oM] at k;rw [zBw v,zBb] at E;have g:=p b oM oM;unfold KS at g;rw [zCa,k] at g;rw [bE oM,k] at hrel o;by_cases q:ro R (b+1) < ro R (b+1+1);left;rw [zBx ⟨q,rfl⟩] at hrel;have:bB (ro R b) (ro R (b+1)) < m:=g.2 (.inr ⟨rfl,q⟩);rw [zBx ⟨rfl,by omega⟩] at o;omega
    · rw [zBw (fun e=>q e.1)] at hrel;have L:¬bB (ro R b) (ro R (b+1)) < m:=fun e=>by rcases g.1 e with A | A;omega;exact q A.2
      by_cases z:bB (ro R b) (ro R (b+1))=m;right;rw [zBx ⟨rfl,by omega⟩] at o;exact ⟨b,rfl,k,z,by omega⟩;left;rw [zBw (fun e=>z oM)] at o;omega
  left;rw [zBw (fun e=>k e.2)] at hrel;rw [zBw (fun e=>k e.1)] at o;omega
 have I:∀d b,d<=N+1->b<=N+1->d≠c->b≠c->d≠b->bB (ro R d) (ro R c)≠bB (ro R b) (ro R c):=fun d b f g j J w=>by have V:=u d c f oM j;have W:=u b c g oM J;have X:=u d b f g w;unfold bB;split <;> split <;> omega
 rcases G with rfl |⟨b,Q,T,U,rfl⟩;refine ⟨y,aCQ n l r x y (fun d f j _=>p d f j) (fun d j=>?_)⟩;have:=p d oM oM;unfold KS at this;rw [zCa] at this;omega;have M:bB (ro R b) (ro R c) < N+1:=(by have v:=(zAc.1 (cE (t b oM))).1;have C:=(zAc.1 (cE (t c oM))).1;rw [B.len] at v C;have:=u b c oM oM oM;unfold bB;split <;> omega);refine ⟨by omega,aCQ n l r x oM (fun d f j P=>?_) (fun d j=>?_)⟩;rw [<-p d f j];have:=I d b f oM j oM oM;omega;obtain rfl:d=b:=oM;omega
def aGG (f:R.Perm (List.range (N+1+1))) (o:EndOk S (N+1)) {b s row} (t:b<=N):aH (S.set b s) (aV (aF R (ro R b)) row b)=aV (aF ((aH S R).set (ro R (b+1)) s) (ro R b)) row (bM S b):=by
 have q:R.Nodup:=f.nodup_iff.2 List.nodup_range;have r:=o.len;have p:∀a,a∈R->a<=N+1:=fun a g=>by have:=zCj.1 (f.mem_iff.1 g);omega
 have j:b+1∈R:=f.mem_iff.2 (zCj.2 oM);have k:=aH8 S (s:=s) (show b < S.length by omega);have l:∀a,a<=N+1->bM (S.set b s) a=if a=b+1 then s else bM S a:=fun a u=>by
  rcases a with _ | a
  · rw [zBw oM,bT (by rw [zAt];omega),bT oM,zAt,k,zBw oM]
  · rw [bE (by rw [zAt];omega),bE oM,k];by_cases d:a=b
    · rw [zBx d,zBx oM]
    · rw [zBw d,zBw oM]
 unfold aH;rw [nX,sJ,l b oM,zBw oM];congr 2;apply List.ext_getElem?;intro n;rw [zAf,zBm,zAf];cases c:R[n]? with
 | none=>
   have:¬ro R (b+1)=n:=fun e=>by rw [<-e,cE j] at c;cases c
   rw [zBw this];rfl
 | some a=>
   have g:=zAd c;have m:=gJ q c;show some (bM (S.set b s) a)=_;rw [l a (p a g)];by_cases d:a=b+1
   · subst d;rw [zBx rfl,zBx m,zBx (by rw [m];simpa using (zAc.1 c).1)]
   rw [zBw d,zBw (fun e=>d ?_)];rfl;rw [<-e,cE j] at c;injection c with c;exact c.symm
end
end
section
open Go.RowKit
def mX (a b:Nat) (e:a < 4294967296) (f:b < 4294967296):bits .xor .u32 (a:Int) (b:Int)=((a ^^^ b:Nat):Int):=by
 have g:a ^^^ b < 2 ^ 32:=Nat.xor_lt_two_pow oM oM;have c:(BitVec.ofInt 32 (a:Int)).toNat=a:=by rw [BitVec.ofInt_natCast,BitVec.toNat_ofNat];exact zBu oM
 have d:(BitVec.ofInt 32 (b:Int)).toNat=b:=by rw [BitVec.ofInt_natCast,BitVec.toNat_ofNat];exact zBu oM
 show IntKind.u32.wrap ((BitVec.ofInt 32 (a:Int)^^^ BitVec.ofInt 32 (b:Int)).toNat:Int)=_;rw [BitVec.toNat_xor,c,d,IntKind.wrap_u32];omega
def aC7 (a b:Nat) (e:a < 256) (f:b < 256):bits .xor .u8 (a:Int) (b:Int)=((a ^^^ b:Nat):Int):=by
 have g:a ^^^ b < 2 ^ 8:=Nat.xor_lt_two_pow oM oM;have c:(BitVec.ofInt 8 (a:Int)).toNat=a:=by rw [BitVec.ofInt_natCast,BitVec.toNat_ofNat];exact zBu oM
 have d:(BitVec.ofInt 8 (b:Int)).toNat=b:=by rw [BitVec.ofInt_natCast,BitVec.toNat_ofNat];exact zBu oM
 show IntKind.u8.wrap ((BitVec.ofInt 8 (a:Int)^^^ BitVec.ofInt 8 (b:Int)).toNat:Int)=_;rw [BitVec.toNat_xor,c,d,IntKind.wrap_u8];omega
def aBx (a:Nat) (d:a < 4294967296):bits .and .u32 (a:Int) 1=((a % 2:Nat):Int):=by
 have b:(BitVec.ofInt 32 (a:Int)).toNat=a:=by rw [BitVec.ofInt_natCast,BitVec.toNat_ofNat];exact zBu oM
 show IntKind.u32.wrap ((BitVec.ofInt 32 (a:Int)&&& BitVec.ofInt 32 (1:Int)).toNat:Int)=_;rw [BitVec.toNat_and,b];have c:(BitVec.ofInt 32 (1:Int)).toNat=1:=dC;rw [c,IntKind.wrap_u32,Nat.and_one_is_mod];omega
def aDU (a:Nat) (j:a < 4294967296) (d):
 Calls prog 243 #[.int .u32 (a:Int),false] d fun e k=>e=.returned (.int .u32 ((mW a:Nat):Int))/\Below d.heap.size d k:=by
 have l:=aBx a j;go_enter func243,ntmps243;go_wp2_with fail
 · go_ret;refine ⟨?_,kh _ _⟩
   rename_i b
   have c:a % 2=1:=(by have:=eq_of_beq b;omega);have f:((a:Int)/ 2)=((a / 2:Nat):Int):=oM;have g:(3988292384:Int)=((3988292384:Nat):Int):=rfl;show Ending.returned (Value.int .u32 (bits .xor .u32 ((a:Int)/ 2) 3988292384))=_;rw [f,g,mX _ _ oM oM,mW,zBx c]
 · go_ret;refine ⟨?_,kh _ _⟩
   rename_i b
   have c:¬a % 2=1:=(by intro m;have:((a:Int)% 2==1)=true:=zCq.2 oM;rw [this] at b;cases b);show Ending.returned (Value.int .u32 ((a:Int)/ 2))=_;rw [mW,zBw c];rfl
def zM (i b:Nat):Nat->Nat:=fun a=>if a < i then kT a else if a=i then b else 0
def aHT (i e d):(fun b=>if b=i then d else zM i e b)=zM i d:=by
 funext b;unfold zM;by_cases a:b=i
 · rw [zBx a,zBw oM,zBx a]
 · rw [zBw a];by_cases c:b < i
   · rw [zBx c,zBx c]
   · rw [zBw c,zBw c,zBw a,zBw a]
def aF9 (i):zM i (kT i)=zM (i+1) 0:=by
 funext p;unfold zM;by_cases a:p < i
 · rw [zBx a,zBx oM]
 · rw [zBw a];by_cases b:p=i
   · subst b;rw [zBx rfl,zBx oM]
   · rw [zBw b,zBw oM];split <;> rfl
@[irreducible] def crcC:Array Value:=kY .u32 256 kT
@[irreducible] def tabC (i c:Nat):Array Value:=kY .u32 256 (zM i c)
def aCj {i c a:Nat} (b:i < 256):(tabC i c).setIfInBounds i (.int .u32 (a:Int))=tabC i a:=by
 unfold tabC;rw [mD b,aHT]
def wR {i a} (b:i < 256):(tabC i a)[i]?=some (.int .u32 (a:Int)):=by
 unfold tabC;rw [gP b];unfold zM;rw [zBw oM,zBx rfl]
def aGb (i):tabC i (sL 8 i)=tabC (i+1) 0:=by
 unfold tabC;rw [<-aF9];rfl
def aAv:Array.replicate 256 (Value.int .u32 0)=tabC 0 0:=by
 unfold tabC;rw [pK];exact dH fun i a=>by unfold zM;rw [zBw oM];split <;> rfl
def aHU (b):tabC 256 b=crcC:=by
 unfold tabC crcC;exact dH fun i a=>by unfold zM;rw [zBx a]
def aJc {i} (a:i < 256):crcC[i]?=some (.int .u32 ((kT i:Nat):Int)):=by
 unfold crcC;exact gP a
def pG:crcC.size=256:=by unfold crcC;exact mC _ _ _
def aGa (i a):(tabC i a).size=256:=by unfold tabC;exact mC _ _ _
def aF7 {b a d c} (k:d.getD 0 undef=.pointer (some c)) (g:Bk a c 238 crcC) (l:(prog.info? 238).map (·.size)=some crcC.size) (j:Below b.heap.size b a):
 bodyPost prog f226 (fun e a=>e=.returned (.agg crcC)/\Below b.heap.size b a) .ret ⟨d, []⟩ a:=
 bodyPost_ret (results_cell_row (P:=prog) (fn:=f226) (p:=0) (ty:=238) rfl d a c 238 crcC (0,0) _ k g underlying238 rfl l) rfl ⟨rfl,j⟩
def aKI (a:Nat) (d:a < 4294967296):bits .xor .u32 IntKind.u32.max (a:Int)=((4294967295 - a:Nat):Int):=by
 have b:IntKind.u32.max=((4294967295:Nat):Int):=dC;rw [b,mX _ _ oM d];congr 1;have c:(4294967295:Nat)^^^ a=(BitVec.allOnes 32 ^^^ BitVec.ofNat 32 a).toNat:=by rw [BitVec.toNat_xor,BitVec.toNat_ofNat,zBu (by omega:a < 2 ^ 32)];rfl
 rw [c,BitVec.allOnes_xor,BitVec.toNat_not,BitVec.toNat_ofNat,zBu (by omega:a < 2 ^ 32)]
def aB7 (b):
 Calls prog 226 #[] b fun t C=>t=.returned (.agg crcC)/\Below b.heap.size b C:=by
 go_enter func226,ntmps226;go_wp2_with fail;go_loopw [3] (fun i wr=>∃(a:Nat) (j:Nat),a<=256/\i=.int .i64 (a:Int)/\Bk wr b.heap.size 238 (tabC 0 0)/\Bk wr (b.heap.size+1) 238 (tabC a j)/\(a < 256->j=0)/\Below b.heap.size b wr) (fun i _=>256 -(intOf i).toNat)
 case atStart=>refine ⟨0,0,by omega,rfl,?_,?_,fun _=>rfl,?_⟩;rw [<-aAv];exact (ke _ _ _).alloc _;rw [<-aAv];have u:=ke (b.alloc (.cells Tryz.zeroCells238 238)) 238 Tryz.zeroCells238;rw [show (b.alloc (.cells Tryz.zeroCells238 238)).heap.size=b.heap.size+1 by simp] at u;exact u;exact (bR.alloc nL _).alloc (by simp) _
 case round=>
  obtain ⟨a,j,M,rfl,l,d,g,v⟩:=hrel;by_cases e:a < 256
  · have B:=g e;subst B;have J:((a:Int) < 256):=oM;have E:wr.cell? ⟨b.heap.size+1,a,none⟩=some (.int .u32 0):=(d.cell a).trans (wR e);have H:=d.frozen a;go_wp2_with fail;go_loopw [10] (fun i r=>∃c:Nat,c<=8/\i=.int .i64 (c:Int)/\Bk r b.heap.size 238 (tabC 0 0)/\Bk r (b.heap.size+1) 238 (tabC a (sL c a))/\Below b.heap.size b r) (fun i _=>8 -(intOf i).toNat)
    case atStart=>refine ⟨0,by omega,rfl,l.far (by simp) _,?_,v.setCell (by simp) _⟩;have:=d.set a (.int .u32 (a:Int));rw [aCj e] at this;exact this
    case round=>
        obtain ⟨c,K,rfl,o,f,n⟩:=hrel;by_cases O:c < 8
        · have L:((c:Int) < 8):=oM;have F:wr.cell? ⟨b.heap.size+1,a,none⟩=some (.int .u32 ((sL c a:Nat):Int)):=(f.cell a).trans (wR e);go_wp2_with fail;refine (aDU (sL c a) (xZ oM c) _).mono ?_;rintro t D ⟨rfl,m⟩;have p:=f.below m f.lt;have A:=o.below m o.lt;have G:D.cell? ⟨b.heap.size+1,a,none⟩=some (.int .u32 ((sL c a:Nat):Int)):=(p.cell a).trans (wR e);have I:=p.frozen a;go_wp2_with fail;go_roundw
          case rel=>refine ⟨c+1,by omega,by go_num,A.far (by simp) _,?_,(n.trans (m.mono n.size)).setCell (by simp) _⟩;have:=p.set a (.int .u32 ((mW (sL c a):Nat):Int));rw [aCj e] at this;exact this
          case measure=>simp [intOf];omega
        · have q:c=8:=oM;subst q;go_wp2_with fail;go_roundw
          case rel=>rw [aGb] at f;exact ⟨a+1,0,by omega,by go_num,o,f,fun _=>rfl,n⟩
          case measure=>simp [intOf];omega
  · have q:a=256:=oM;subst q;rw [aHU] at d;obtain ⟨s,y⟩:=hqq2 l d;clear l d;have x:(prog.info? 238).map (·.size)=some crcC.size:=(by rw [pG];kernel_rfl);have w:crcC.all (·.oneCell')=true:=(by unfold crcC kY;rw [Array.all_eq_true_iff_forall_mem];intro j g;rw [List.mem_toArray,zAy] at g;obtain ⟨Q,_,rfl⟩:=g;rfl);obtain ⟨k,z⟩:=hqq2 x w;clear x w;go_wp2_with (first |(refine wpList_load_row (P:=prog) rfl 238 (.tmp 1) rfl (b.heap.size+1) rfl 238 crcC (0,0) _ y.out underlying238 rfl k.out ?_)|(refine wpList_store_row (P:=prog) rfl 238 (.tmp 0) (.tmp 20) rfl b.heap.size crcC rfl rfl 238 (tabC 0 0) s.out k.out (by rw [aGa,pG]) z.out ?_));exact aF7 rfl (setRow_heap wr b.heap.size _ crcC _ _ s.out) k.out (below_setRow v nL _)
def aDV (d:Nat) (H:d < 4294967296) (q) (f C:Nat) (b g) (p:Rd g g.heap.size 1 q f (b.map bv)) (W:f<=1099511627776):
 Calls prog 189 #[.int .u32 (d:Int),.slice q f C] g fun r L=>r=.returned (.int .u32 ((aBp d b:Nat):Int))/\Below g.heap.size g L:=by
 have U:b.length=f:=by have:=p.1;simpa using this
 have z:=lhd p;clear p;have w:(prog.info? 238).map (·.size)=some crcC.size:=by rw [pG];kernel_rfl
 have v:crcC.all (·.oneCell')=true:=by unfold crcC kY;rw [Array.all_eq_true_iff_forall_mem];intro c k;rw [List.mem_toArray,zAy] at k;obtain ⟨Y,_,rfl⟩:=k;rfl
 obtain ⟨B,A⟩:=hqq2 w v;clear w v;go_enter func189,ntmps189;go_wp2_with fail;refine (aB7 _).mono ?_;rintro r w1 ⟨rfl,t⟩;go_wp2_with (refine wpList_store_row (P:=prog) rfl 238 (.tmp 5) (.tmp 8) rfl w1.heap.size crcC rfl rfl 238 Tryz.zeroCells238 (heap_alloc_new _ _) B.out (by rw [pG];kernel_rfl) A.out ?_;rw [World.setRow_alloc_new]);rw [aKI d H];have F:=t.size;go_loopw [0,13] (fun c i wr=>∃a:Nat,a<=f/\i=.int .i64 (a:Int)/\c=.int .u32 ((uU (b.take a) (4294967295 - d):Nat):Int)/\Bk wr w1.heap.size 238 crcC/\Below g.heap.size g wr) (fun _ i _=>f -(intOf i).toNat)
 case atStart=>exact ⟨0,by omega,rfl,by rw [List.take_zero];rfl,ke _ _ _,t.alloc F _⟩
 case round=>
  obtain ⟨a,V,rfl,rfl,u,n⟩:=hrel;by_cases G:a < f
  · obtain ⟨M,X,Z,rfl,T,j,D⟩:=(z.out.below n).get G;rw [zAf] at j;obtain ⟨e,y⟩:∃e,b[a]?=some e:=⟨_,zAa oM⟩;rw [y] at j;injection j with j;subst j;have I:b.take (a+1)=b.take a++ [e]:=(by rw [zAv,y];rfl);have m:=yA (b.take a) e (4294967295 - d);rw [<-I] at m;have x:=sM (b.take a) (4294967295 - d) oM;obtain ⟨c,k⟩:=eqx (uU (b.take a) (4294967295 - d));rw [k] at m x;rw [k];have o:=aJb x e;have J:=e.toNat_lt;have s:bits .xor .u8 ((c:Int)% 256) (e.toNat:Int)=(((c % 256)^^^ e.toNat:Nat):Int):=(by have:((c:Int)% 256)=((c % 256:Nat):Int):=oM;rw [this,aC7 _ _ oM J]);obtain ⟨l,K⟩:=eqx ((c % 256)^^^ e.toNat);rw [K] at m o s;have O:wr.cell? ⟨w1.heap.size,l,none⟩=some (.int .u32 ((kT l:Nat):Int)):=(u.cell l).trans (aJc o);have Q:bits .xor .u32 ((kT l:Nat):Int) ((c:Int)/ 256)=((kT l ^^^(c / 256):Nat):Int):=(by have:((c:Int)/ 256)=((c / 256:Nat):Int):=oM;rw [this,mX _ _ (aAH o) oM]);unfold bv at D;go_wp2_with fail;go_roundw
    case rel=>exact ⟨a+1,by omega,by go_num,by rw [m],u,n⟩
    case measure=>simp [intOf];omega
  · have E:a=f:=oM;subst E;rw [zAg (by omega:b.length<=a)];have s:=aKI _ (sM b (4294967295 - d) oM);go_wp2_with fail;go_ret;exact ⟨rfl,n⟩
def uJ (e m d g q f a) (v:Rd a a.heap.size 1 e d (f.map bv)) (t:d<=1099511627776) (u:Rd a a.heap.size 1 m 1 [.slice e d g]):
 Calls prog 127 #[.slice m 1 q] a fun n y=>n=.returned (.int .u32 ((oC f:Nat):Int))/\Below a.heap.size a y:=by
 obtain ⟨p,w,B,rfl,s,l,o⟩:=u.get (k:=0) oM;injection l with l;subst l;go_enter func127,ntmps127;go_wp2_with fail;go_loopw [3,8] (fun x i wr=>∃b:Nat,b<=1/\i=.int .i64 (b:Int)/\x=.int .u32 (((if b=0 then 0 else oC f):Nat):Int)/\Below a.heap.size a wr) (fun _ i _=>1 -(intOf i).toNat)
 case atStart=>exact ⟨0,by omega,rfl,rfl,kh _ _⟩
 case round=>
  obtain ⟨b,z,rfl,rfl,c⟩:=hrel;by_cases A:b < 1
  · have j:b=0:=oM;subst j;have o:wr.cell? ⟨p,w,none⟩=some (.slice e d g):=(c.cell s).trans o;rw [zBx rfl];go_wp2_with fail;refine (aDV 0 oM e d g f wr ((v.below c).mono c.size) t).mono ?_;rintro n w1 ⟨rfl,r⟩;go_wp2_with fail;go_roundw
    case rel=>exact ⟨1,by omega,rfl,rfl,c.trans (r.mono c.size)⟩
    case measure=>simp [intOf]
  · have j:b=1:=oM;subst j;rw [zBw oM];go_wp2_with fail;go_ret;exact ⟨rfl,c⟩
def TabW.vb {a b d} (e:TabW b) (j:VB a b d) (k:1 < a) (g:1 < b.heap.size):TabW d:=
 fun c f=>(j.2.cell (p:=⟨1,c,none⟩) g (by show ¬(a<=1);omega)).trans (e c f)
def aDt (e m q B C:Nat) (k:Nat) (X:Int) (A) (s r n:Nat) (c) (a0:TreeAt c m A) (K:Bk c q 3 #[(r:Int)]) (P:Bk c B 3 #[(n:Int)]) (U:Bk c C 3 #[(k:Int)]) (am:k < 9) (an:n < 257) (O:A[s]?=some (hQ n k)) (J:(A.take s).count (hQ n k)=r) (G:TabW c) (ai:1 < e) (aj:e<=m):
 Calls prog 172 #[.agg #[m,(k:Int),(X:Int)],q,B,C] c fun E az=>E=.returned (.tuple #[])/\
  ∃w1,VB e c w1/\Bk w1 q 3 #[(r:Int)]/\az=w1.setCell q (.int .i64 (s:Int)):=by
 have ar:=K.lt;have au:=P.lt;have av:=U.lt;have a1:1 < c.heap.size:=G.pos;obtain ⟨o,w⟩:=eqx (hQ n k);rw [w] at O J;obtain ⟨a3,M⟩:=eqx (Obj.cells #[m,(k:Int),(X:Int)] 183);have l:=(kh c.heap.size c).alloc nL a3;have y:=ke c 183 #[m,(k:Int),(X:Int)];rw [M] at y;have aw:=y.lt;obtain ⟨t,I⟩:=eqx (c.alloc a3);have T:=a0.below l;have L:=K.below l ar;have Q:=P.below l au;have V:=U.below l av;have H:=G.below l a1;rw [I] at l y T L Q V H aw;have a2:=l.size;obtain ⟨a8,ac,a9,af,Y,ad,ag,a6,a5⟩:=hqq9 w O J T L Q V H l;obtain ⟨ae,ab,a7,aa⟩:=hqq4 y M I a2;clear w O J a0 K P U G l y M T L Q V H I a2;go_enter func172,ntmps172;go_wp2_with fail;rw [ab.out,a7.out];refine wp_region_any kR ?_;refine cB e 7 [5,6,7,8,9,10,11] (fun _=>False) 6 [] (fun _=>True) (is (s:Int)) [is c.heap.size,is m,is (r:Int),is (n:Int),is (k:Int),is (.bool o),cJ] _ _ rfl dC kR kR kR (trivial) (fun _ _ _ _ _=>trivial) (jA _ _) tA1 ?_ ?_
 · refine bJ ?_;refine pH3 4 (.pointer (some c.heap.size)) ?_;refine sC3 (fun _ b a _ _ _ _ j _ _ _ d=>?_) ?_
   · replace a:VFB e (fun _=>False) t b:=fD a;have aI:_=_:=j 0 5 kR rfl;have W:b.cell? c.heap.size=some (.pointer (some m)):=((a.1.bk ae.out dC dC (fun g=>g)).cell 0).trans rfl;go_simp;exact d _ _ (aG vR) rfl
   refine sC3 (fun p b a _ _ _ x _ _ _ _ d=>?_) ?_
   · replace a:VFB e (fun _=>False) t b:=fD a;have aD:p (.tmp 1)=.pointer (some q):=x 1 kR;have W:b.cell? q=some (.int .i64 (r:Int)):=((a.1.bk Y.out dC dC (fun g=>g)).cell 0).trans rfl;go_simp;exact d _ _ (aG vR) rfl
   refine sC3 (fun p b a _ _ _ x _ _ _ _ d=>?_) ?_
   · replace a:VFB e (fun _=>False) t b:=fD a;have aF:p (.tmp 2)=.pointer (some B):=x 2 kR;have W:b.cell? B=some (.int .i64 (n:Int)):=((a.1.bk ad.out dC dC (fun g=>g)).cell 0).trans rfl;go_simp;exact d _ _ (aG vR) rfl
   refine sC3 (fun p b a _ _ _ x _ _ _ _ d=>?_) ?_
   · replace a:VFB e (fun _=>False) t b:=fD a;have aH:p (.tmp 3)=.pointer (some C):=x 3 kR;have W:b.cell? C=some (.int .i64 (k:Int)):=((a.1.bk ag.out dC dC (fun g=>g)).cell 0).trans rfl;go_simp;exact d _ _ (aG vR) rfl
   refine sC3 (fun _ b _ _ _ _ _ j _ _ _ d=>?_) ?_
   · have aL:_=_:=j 3 8 kR rfl;have aM:_=_:=j 4 9 kR rfl;go_simp;refine (nB n k b an am).mono ?_;rintro E aA ⟨rfl,al⟩;rw [a8.out];exact d _ _ (aG (kd al)) rfl
   refine sC3 (fun _ b a _ _ _ _ j _ _ _ d=>?_) ?_
   · replace a:VFB e (fun _=>False) t b:=fD a;have aJ:_=_:=j 1 6 kR rfl;have aK:_=_:=j 2 7 kR rfl;have aE:_=_:=j 5 10 kR rfl;go_simp;have u:=VFB.to_vb a (fun o _ g=>g);have ao:=af.out.vis u.1;have ak:=a6.out.vb u ai (zAl a1 aa.out);refine (yN m A s r o b ao ac.out a9.out ak oM).mono ?_;rintro E aA ⟨rfl,ap⟩;exact d _ _ (aG (ap.mono fun o w=>by rcases w with rfl;exact aj)) rfl
   exact aC
 · intro p z v a j Z;replace a:VFB e (fun _=>False) t z:=fD a;have ah:p (.tmp 11)=.int .i64 (s:Int):=j 6 11 dC rfl;obtain ⟨ay,a4⟩:=Z 6 dC;have ax:(is (s:Int)) ay z:=a4;clear a4 Z;simp only [zqq];rw [ah];clear j;have u:=VFB.to_vb a (fun o _ g=>g);have D:=u.1.bk Y.out dC dC;have aB:z.cell? q=some (.int .i64 (r:Int)):=(D.cell 0).trans rfl;have aN:=D.frozen 0;have aq:=(kd (F:=fun o=>e<=o) a5.out).trans u;have aO:=D.lt;clear u a ax;change wpAny prog Region.Mode.any _ _ (1+v) (bX 7 8) _ z;rw [zCs 1 v];refine bQ (f:=v) (i:=7) kR ?_;refine bY rfl rfl ?_;generalize d:wpAny prog _ _ _ v _=K5;go_simp;subst d;refine bV kR ?_;go_wp2_with fail;go_end0;exact ⟨rfl,z,aq,D,rfl⟩
def aHu (m a f d O P:Nat) (S:Nat->Value) (B ak k:Int) (q:Nat) (w) (j a3 C:Nat) (w0 c) (L:Bk c a 180 (wcells S B ak)) (a0:TreeAt w0 f w) (a1:Vis w0 c) (aN:w0.heap.size<=d) (J:Bk c d 3 #[(a3:Int)]) (Z:Bk c O 3 #[(C:Int)]) (V:Bk c P 3 #[(q:Int)]) (aS:q < 9) (aU:C < 257) (af:w[j]?=some (hQ C q)) (ad:(w.take j).count (hQ C q)=a3) (Q:TabW c) (aG:1 < m) (aJ:m<=a) (aI:m<=f) (aH:m<=d):
 Calls prog 151 #[a,.agg #[f,(q:Int),(k:Int)],.func (.func 172) #[] #[d,O,P]] c fun s a4=>s=.returned (.tuple #[])/\
  VisF (fun b=>b=d) c a4/\Keep (fun b=>m<=b) c a4/\Bk a4 d 3 #[(j:Int)]:=by
 have ag:=a0.vis a1;obtain ⟨aB,av,ay,aw,au,aA⟩:=hqq6 a0 a1 af ad Q Z;have bh:=Z.lt;have aZ:1 < c.heap.size:=Q.pos;clear a0 a1 af ad Q Z;obtain ⟨b1,X⟩:=eqx (Obj.cells #[f,(q:Int),(k:Int)] 183);have ab:=(kh c.heap.size c).alloc nL b1;have Y:=ke c 183 #[f,(q:Int),(k:Int)];rw [X] at Y;have be:=V.lt;have bf:=J.lt;have bg:=L.lt;have b0:=Bk.ne J L dC;obtain ⟨M,a6,a5,a8,n,a7,ax⟩:=hqq7 ag J V L ab Y X;clear ag V J L ab Y X;go_enter func151,ntmps151;go_wp2_with fail;rw [ax.out];refine (aDt m f d O P q k w j a3 C _ (M.out.below n.out) (a6.out.alloc _) (aA.out.alloc _) (a5.out.alloc _) aS aU ay.out aw.out (au.out.below n.out aZ) aG aI).mono ?_;rintro s u ⟨rfl,w1,t,ae,rfl⟩;obtain ⟨r,ai⟩:=((kc n.out).trans t.1).waveC a8.out;have A:=ai.far (p:=d) (fun g=>b0 g.symm) (.int .i64 (j:Int));have aV:=M.out.vis ((kc n.out).trans t.1);have z:TreeAt (w1.setCell d (.int .i64 (j:Int))) f w:=aB.out.vis (((av.out.trans (kc n.out)).trans t.1).fresh (p:=d) aN _);obtain ⟨D,a2⟩:=z.visits;have v:=(t.1.bk a7.out dC dC).far (p:=d) (fun g=>absurd (show c.heap.size=d from g) oM) (.int .i64 (j:Int));have K:=ae.set 0 (.int .i64 (j:Int));have U:VisF (fun b=>b=d) c (w1.setCell d (.int .i64 (j:Int))):=VisF.put (F:=fun b=>b=d) (VisF.of_vis ((kc n.out).trans t.1)) (p:=d) (.inl rfl) _;have W:Keep (fun b=>m<=b) c (w1.setCell d (.int .i64 (j:Int))):=ka (F:=fun b=>m<=b) ((kF n.out).trans t.2) (p:=d) (.inl aH) _;obtain ⟨G,aa⟩:=eqx (w1.setCell d (.int .i64 (j:Int)));rw [aa] at A z a2 v K U W⊢;have b2:G.cell? c.heap.size=some (.pointer (some f)):=(v.cell 0).trans rfl;obtain ⟨E,az,ar,ap,aq,aD,aF⟩:=hqq7 A v K U W z a2;have aW:=z.lt;have bd:=v.lt;have aQ:=Bk.ne A v dC;have aO:=Bk.ne A K dC;have aR:f≠a:=by rintro rfl;obtain ⟨bc,ak,⟨_,_,H⟩|⟨_,_,_,_,_,I⟩⟩:=aD.out;exact absurd (aP H E.out).1 dC;exact absurd (aP I.tree E.out).1 dC
 clear A v K U W z a2 aa ai aV ae t n M a6 a5 a8 a7 b2;go_wp2_with fail;refine wp_region_any kR ?_;refine aY [9,10,11,12,13,14,15,16,17,18] (fun b=>b=a) 10 [3,10] (fun u=>Bk u a 180 (wcells S B r)) (fun _ u=>Bk u a 180 (wcells S B (IntKind.i64.wrap (r+D)))) [is a,is a,is (.pointer (some ⟨a,10,none⟩)),is (.int .i64 r),is c.heap.size,is f,is (.int .i64 D),is (.int .i64 (IntKind.i64.wrap (r+D))),is a,is (.pointer (some ⟨a,10,none⟩)),cJ] _ _ rfl kR kR (E.out) (fun u bj g _ aM=>kg g aM g.lt) (fun _ _ _ g aX=>kg g aX g.lt) tA0 ?_ ?_
 · refine aK ?_;refine pH3 0 (.pointer (some a)) ?_;refine pV3 0 9 ?_;refine pV3 1 10 ?_;refine sC3 (fun _ l _ T _ _ _ o _ _ _ x=>?_) ?_
   · have y:=T rfl;have b6:_=_:=o 2 11 kR rfl;have b4:l.cell? ⟨a,10,none⟩=some (.int .i64 r):=(y.cell 10).trans (bI _ _ _).2.2.2.2.2.2.2.2.2.2;go_simp;exact kq x rfl
   refine pH3 4 (.pointer (some c.heap.size)) ?_;refine pL3 4 13 (fun l e=>have e:Keep (fun b=>b=a) G l:=kD e;(((e.bk az.out (fun g=>aQ (show c.heap.size=a from g).symm)).cell 0).trans rfl:l.cell? c.heap.size=some (.pointer (some f)))) ?_;refine sC3 (fun _ l e _ _ _ _ o _ _ _ x=>?_) ?_
   · replace e:Keep (fun b=>b=a) G l:=kD e;have b7:_=_:=o 5 14 kR rfl;go_simp;refine (fZ f D l ((e.cell aW aR).trans aF.out)).mono ?_;rintro s bl ⟨rfl,aL⟩;exact x _ _ (aE aL) rfl
   refine pW3 3 12 6 15 ?_;refine pV3 0 9 ?_;refine pV3 8 17 ?_;refine sC3 (fun _ l _ T _ _ _ o _ _ _ x=>?_) ?_
   · have y:=T rfl;have b9:_=_:=o 9 18 kR rfl;have b8:_=_:=o 7 16 kR rfl;have b5:l.cell? ⟨a,10,none⟩=some (.int .i64 r):=(y.cell 10).trans (bI _ _ _).2.2.2.2.2.2.2.2.2.2;have bb:=y.frozen 10;go_simp;refine x (.bool true) _ (aT (ka (F:=fun b=>b=a) (kf _ _) (p:=⟨a,10,none⟩) (.inl rfl) _)) ?_;rw [<-cR S B r];exact y.set 10 _
   exact aC
 · intro ba al e o ac;replace e:Keep (fun b=>b=a) G al:=kD e;obtain ⟨bi,aj⟩:∃b3,(fun _ u=>Bk u a 180 (wcells S B (IntKind.i64.wrap (r+D)))) b3 al:=ac 10 dC;simp only [zqq];clear o ac;have ah:=Vis.of_wave e E.out aj;have a9:=VisF.trans ap.out (VisF.of_vis ah);have H:=aq.out.trans (e.mono fun b _ (s:b=a)=>by rw [s];exact aJ);have I:=e.bk ar.out (fun s=>aO (show d=a from s).symm);obtain ⟨am,an,ao⟩:=hqq3 a9 H I;clear ah a9 H I aj e;go_wp2_with fail;go_end0;exact ⟨rfl,am.out,an.out,ao.out⟩
def VisF.waveC {d g j b} {S:Nat->Value} {e f} (k:VisF d g j) (l:Bk g b 180 (wcells S e f)) (m:¬d b):∃c,Bk j b 180 (wcells S e c):=by
 rcases VisF.wave k l m with a |⟨c,a⟩;exact ⟨f,a⟩;rw [cR] at a;exact ⟨c,a⟩
def aKK (d:Value) (c:World):Nat:=match d with
 | .pointer (some a)=>match c.cell? a with
   | some b=>(intOf b+1).toNat
   | none=>0
 | _=>0
def aCS {b a c} (d:b.cell? a=some (.int .i64 c)):aKK (.pointer (some a)) b=(c+1).toNat:=by
 show (match b.cell? a with | some e=>(intOf e+1).toNat | none=>0)=_;rw [d];rfl
def yH (m n k t u c v) (f:WaveAt v m n k) (a7:k[t]?=some c) (a4:(k.take t).count c=u) (a2:∀x∈k,x < 257) (aU:k.length<=1000) (aM:TabW v) (aJ:1 < m):
 Calls prog 116 #[n,(u:Int),(c:Int)] v fun F c9=>F=.returned (.int .i64 (t:Int))/\VB m v c9:=by
 have W:=(zAc.1 a7).1;have ap:=(zAc.1 a7).2;have X:c < 257:=by rw [<-ap];exact a2 _ (zBj W)
 have ak:(k.take t).count c < k.count c:=by
  have cw:k.count c=(k.take (t+1)).count c+(k.drop (t+1)).count c:=by rw [<-zCc,zAu]
  have cx:(k.take (t+1)).count c=(k.take t).count c+1:=by rw [zAv,a7,zCc];simp
  omega
 have aI:=mA k t c (zCm W) a2 X;have af:=aAL k t c;rw [a4] at af ak;have aQ:∀e,(aL k e (bG c e))[gF k t c e]?=some (hQ c e):=fun e=>by have:=aBw k t e W;rw [ap] at this;exact this
 have b2:=f;obtain ⟨bM,S,cO,C,aY⟩:=f;obtain ⟨D,a6⟩:=eqx k.length;have an:(k.take D).count c=k.count c:=by rw [<-a6,List.take_length]
 obtain ⟨ax,aX⟩:=eqx (k.count c);rw [aX] at an ak;rw [a6] at C W;have bW:=C.lt;have bS:decide ((u:Int) < 0)=false:=by simp
 have T:=((kh v.heap.size v).alloc nL (.cells #[(u:Int)] 3)).alloc (by simp) (.cells #[(c:Int)] 3);have H:=(ke v 3 #[(u:Int)]).alloc (.cells #[(c:Int)] 3);have q:=ke (v.alloc (.cells #[(u:Int)] 3)) 3 #[(c:Int)];rw [sZ0] at q;obtain ⟨L,ah⟩:=eqx ((v.alloc (.cells #[(u:Int)] 3)).alloc (.cells #[(c:Int)] 3));obtain ⟨d,a3⟩:=eqx v.heap.size;obtain ⟨y,aS⟩:=eqx (d+1);rw [ah] at T H q;rw [a3] at H;rw [a3,aS] at q;have cL:=H.lt;have cM:=q.lt;obtain ⟨bq,b9,bA,ac,az,bw,bh,bb,bc⟩:=hqq9 af aI (b2.vis (kc T)) (C.below T bW) C aY aQ a2 a6;obtain ⟨bs,bv,br,be,a0,J,bg,bi,ca⟩:=hqq9 aU an (show ¬ax<=u by omega) aM H q ah T a3;have cb:=lhd aS;clear af aI b2 C aY aQ a2 a6 an aX ak a4 a7 ap aM H q ah T aU W;go_enter func116,ntmps116;go_wp2_with fail;rw [bg.out];refine wp_region_any kR ?_;refine aO [8,9,10,11,12,13,14,15,16,17,18,19,20,21,22,23,24] (VB m) (Vs [is n,is (.bool false),is (.bool false),is (u:Int),is (.bool false),is (.bool false),is (.bool false),is (u:Int),is n,is n,is n,is (.pointer (some ⟨n,9,none⟩)),is (D:Int),is (c:Int),is (ax:Int),is (.bool false),is (.bool false)]) _ _ rfl kR vR (fun _ _=>VisK.trans) (cS tA1) ?_ ?_
 · refine aK ?_;refine pH 0 (.pointer (some n)) ?_;refine pV 0 8 ?_;refine pV 1 9 ?_;refine sG 10 false (fun o b a _ _ w _ _ _ _ j=>?_) ?_
   · have aD:o (.tmp 4)=.pointer (some d):=w 4 kR;replace a:(VB m) L b:=bD a;have Z:b.cell? d=some (.int .i64 (u:Int)):=((a.1.bk a0.out dC dC).cell 0).trans rfl;go_simp;exact j _ _ vR rfl
   refine gV 10 false 3 11 ?_;refine pW 2 10 4 12 ?_;refine pV 5 13 ?_;refine sG 14 false (fun o b a _ _ w _ _ _ _ j=>?_) ?_
   · have aD:o (.tmp 4)=.pointer (some d):=w 4 kR;replace a:(VB m) L b:=bD a;have Z:b.cell? d=some (.int .i64 (u:Int)):=((a.1.bk a0.out dC dC).cell 0).trans rfl;go_simp;exact j _ _ vR rfl
   refine gH 14 false 0 (.pointer (some n)) ?_;refine gH 14 false 0 (.pointer (some n)) ?_;refine gV 14 false 9 17 ?_;refine gV 14 false 10 18 ?_;refine sG 14 false (fun _ b a _ _ _ l _ _ _ j=>?_) ?_
   · have cj:_=_:=l 11 19 kR rfl;replace a:(VB m) L b:=bD a;obtain ⟨K,Y⟩:=a.1.waveC ac.out;have bH:b.cell? ⟨n,9,none⟩=some (.int .i64 (D:Int)):=(Y.cell 9).trans (bI S D K).2.2.2.2.2.2.2.2.2.1;go_simp;exact j _ _ vR rfl
   refine sG 14 false (fun o b a _ _ w _ _ _ _ j=>?_) ?_
   · have aE:o (.tmp 5)=.pointer (some y):=w 5 kR;replace a:(VB m) L b:=bD a;have Z:b.cell? y=some (.int .i64 (c:Int)):=((a.1.bk J.out dC dC).cell 0).trans rfl;go_simp;exact j _ _ vR rfl
   refine sG 14 false (fun _ b a _ _ _ l _ _ _ j=>?_) ?_
   · have ci:_=_:=l 8 16 kR rfl;have ck:_=_:=l 12 20 kR rfl;have cl:_=_:=l 13 21 kR rfl;replace a:(VB m) L b:=bD a;go_simp;refine (iP m n k D c b (bA.out.vis a.1) X (Nat.le_of_eq bc.out.symm) bb.out bs.out).mono ?_;rintro F b6 ⟨rfl,c0⟩;rw [bv.out];exact j _ _ c0 rfl
   refine sG 14 false (fun _ _ _ _ _ _ l _ _ _ j=>?_) ?_
   · have ch:_=_:=l 7 15 kR rfl;have cm:_=_:=l 14 22 kR rfl;have bT:=br.out;have cE:decide (ax<=u)=false:=zBy bT;go_simp;exact j _ _ vR rfl
   refine pW 6 14 15 23 ?_;exact aC
 · intro o z a l;replace a:(VB m) L z:=bD a;have bK:o (.tmp 24)=.bool false:=l 16 24 rfl;simp only [zqq];rw [bK];clear l;have ar:VB m v z:=(kd (a3 ▸ bi.out)).trans a;have H:=a.1.bk a0.out dC dC;have q:=a.1.bk J.out dC dC;have bZ:=a.1.size;obtain ⟨ad,bP⟩:∃x,x=z:=⟨_,rfl⟩;subst bP;have aH:=ke ad 3 #[(8:Int)];have aR:=H.alloc (.cells #[(8:Int)] 3);have al:=q.alloc (.cells #[(8:Int)] 3);have aZ:=ar.alloc (.cells #[(8:Int)] 3);obtain ⟨ba,bj,bm,bx⟩:=hqq4 aH aR al aZ;have cy:m<=d:=oM;have cC:v.heap.size<=ad.heap.size:=ar.1.size;clear aH aR al aZ H q a ar a0 J bS;go_wp2_with fail;go_loopw [7] (fun x wr=>∃(s B:Nat) (P:Int),B<=9/\P=(B:Int) - 1/\x=.pointer (some s)/\Bk wr s 3 #[(P:Int)]/\Bk wr d 3 #[.int .i64 ((gF k t c B:Nat):Int)]/\Bk wr y 3 #[(c:Int)]/\VB m v wr/\y < s) (fun x wr=>aKK x wr)
   case atStart=>exact ⟨ad.heap.size,9,8,by omega,by omega,rfl,ba.out,by rw [bq.out];exact bj.out,bm.out,bx.out,by omega⟩
   case round=>
    obtain ⟨s,c3,P,cG,c1,rfl,A,U,q,I,al⟩:=hrel;have aB:wr.cell? s=some (.int .i64 P):=(A.cell 0).trans rfl;rcases c3 with _ | e
    · have c2:decide (P>=0)=false:=(by simp;omega);have bF:wr.cell? d=some (.int .i64 ((gF k t c 0:Nat):Int)):=(U.cell 0).trans rfl;rw [b9.out] at bF;have Q:=lhd I;clear U q A I;go_wp2_with fail;go_ret;exact ⟨rfl,Q.out⟩
    · obtain rfl:P=(e:Int):=oM;have a5:e < 9:=oM;have c2:decide ((e:Int)>=0)=true:=(by simp);obtain ⟨ab,M,aq⟩:=bw.out e a5;obtain ⟨B,am⟩:=eqx (2 ^ e);obtain ⟨r,V⟩:=eqx (bG c e);have aW:r < B:=(by rw [<-am,<-V];exact mO c e X oM);rw [am] at M aq;obtain ⟨G,ae,ag,cH,cA⟩:=kk M oM;rw [ag] at M;obtain ⟨x,a9⟩:=eqx (gF k t c e);obtain ⟨b7,aa⟩:=eqx (gF k t c (e+1));have av:=mB k t c e a5;have au:=bh.out e;rw [V,a9,aa] at av;rw [V,a9] at au;rw [aa] at U;have cI:(r:Int) < (B:Int):=oM;have aV:=I.1.own M dC dC;have cD:=M.lt;have aT:∀g,(Value.slice (some G) B ae).ownBlock=some g->g≠d:=fun g aj=>by have cz:G=g:=(by simpa [Value.ownBlock] using aj);omega
      have bp:=lhd aT;clear aT;have a8:∃b5,Bk wr n 180 (wcells S D b5):=I.1.waveC az.out;obtain ⟨b5,a8⟩:=a8;have aN:=be.out.vb I aJ oM;have cK:=I.1.size;obtain ⟨bE,bC,bt,ay,bu,bB,cc,Q,bd⟩:=hqq9 av au aV (aq r aW) V a9 aa I ag;obtain ⟨ac,bf,a1,J,bo,b8⟩:=hqq6 a8 aN A q U aB;obtain ⟨E,bQ⟩:∃x,x=wr:=⟨_,rfl⟩;subst bQ;clear M aq ag am V a9 aa av au I aV a8 aN A q U c1;go_wp2_with fail;refine wp_region_any kR ?_;refine cB m 14 [29,30,31,32,33,34,35,36,37,38,39,40,41,42] (fun g=>g=d) 13 [13] (fun O=>Bk O d 3 #[(b7:Int)]) (fun _ O=>Bk O d 3 #[(x:Int)]) [is n,is n,is (e:Int),is n,is n,is (.pointer (some ⟨n,e,none⟩)),is (.slice (some G) B ae),is (c:Int),is (e:Int),is (r:Int),is (.pointer (some ⟨G,r*3,none⟩)),is (.agg #[.pointer (some ⟨ab r,0,none⟩),(e:Int),(r:Int)]),is (.func (.func 172) #[] #[d,y,s]),cJ] _ _ rfl dC kR kR kR (bo.out) (fun w1 O f _ aw=>aw.1.bk f dC dC) (fun _ _ _ f aw=>aw.1.bk f dC dC) tA1 ?_ ?_
      · refine bJ ?_;refine pH3 0 (.pointer (some n)) ?_;refine pH3 0 (.pointer (some n)) ?_;refine sC3 (fun o b a _ _ _ w _ _ _ _ j=>?_) ?_
        · replace a:VFB m (fun g=>g=d) E b:=fD a;have aF:o (.tmp 7)=.pointer (some s):=w 7 kR;have Z:b.cell? s=some (.int .i64 (e:Int)):=((a.1.bk a1.out dC dC (fun f=>absurd (show s=d from f) oM)).cell 0).trans rfl;go_simp;exact j _ _ (aG vR) rfl
        refine pV3 1 30 ?_;refine pV3 3 32 ?_;refine sC3 (fun _ _ _ _ _ _ _ l _ _ _ j=>?_) ?_
        · have cp:_=_:=l 4 33 kR rfl;have co:_=_:=l 2 31 kR rfl;have cF:(e:Int) < 9:=oM;go_simp;exact j _ _ (aG vR) rfl
        refine sC3 (fun _ b a _ _ _ _ l _ _ _ j=>?_) ?_
        · replace a:VFB m (fun g=>g=d) E b:=fD a;have cq:_=_:=l 5 34 kR rfl;obtain ⟨K,Y⟩:=a.1.waveC ac.out (fun f=>absurd (show n=d from f) oM);have bH:b.cell? ⟨n,e,none⟩=some (.slice (some G) B ae):=(Y.cell e).trans ((tM S D K e a5).trans (congrArg some bd.out));go_simp;exact j _ _ (aG vR) rfl
        refine sC3 (fun o b a _ _ _ w _ _ _ _ j=>?_) ?_
        · replace a:VFB m (fun g=>g=d) E b:=fD a;have aE:o (.tmp 5)=.pointer (some y):=w 5 kR;have Z:b.cell? y=some (.int .i64 (c:Int)):=((a.1.bk J.out dC dC (fun f=>absurd (show y=d from f) oM)).cell 0).trans rfl;go_simp;exact j _ _ (aG vR) rfl
        refine sC3 (fun o b a _ _ _ w _ _ _ _ j=>?_) ?_
        · replace a:VFB m (fun g=>g=d) E b:=fD a;have aF:o (.tmp 7)=.pointer (some s):=w 7 kR;have Z:b.cell? s=some (.int .i64 (e:Int)):=((a.1.bk a1.out dC dC (fun f=>absurd (show s=d from f) oM)).cell 0).trans rfl;go_simp;exact j _ _ (aG vR) rfl
        refine sC3 (fun _ b _ _ _ _ _ l _ _ _ j=>?_) ?_
        · have cr:_=_:=l 7 36 kR rfl;have cs:_=_:=l 8 37 kR rfl;go_simp;refine (lK c e b X oM).mono ?_;rintro F b6 ⟨rfl,ai⟩;rw [bu.out];exact j _ _ (aG (kd ai)) rfl
        refine pW3 6 35 9 38 ?_;refine sC3 (fun _ b a _ _ _ _ l _ _ _ j=>?_) ?_
        · replace a:VFB m (fun g=>g=d) E b:=fD a;have ct:_=_:=l 10 39 kR rfl;have ao:=aA bt.out fun g cg aj C=>a.1.bk C dC dC (fun f=>absurd (show g=d from f) (bp.out g aj));obtain ⟨c5,c6,c7⟩:=fV ab e B r aW;have cd:b.cell? ⟨G,r*3,none⟩=_:=(ki ao (r*3) oM).trans c5;have ce:b.cell? ⟨G,r*3+1,none⟩=_:=(ki ao (r*3+1) oM).trans c6;have cf:b.cell? ⟨G,r*3+2,none⟩=_:=(ki ao (r*3+2) oM).trans c7;go_simp;exact j _ _ (aG vR) rfl
        refine sC3 (fun o _ _ _ _ _ w _ _ _ _ j=>?_) ?_
        · have aD:o (.tmp 4)=.pointer (some d):=w 4 kR;have aE:o (.tmp 5)=.pointer (some y):=w 5 kR;have aF:o (.tmp 7)=.pointer (some s):=w 7 kR;go_simp;exact j _ _ (aG vR) rfl
        refine sC3 (fun _ b a bO _ _ _ l _ _ _ j=>?_) ?_
        · replace a:VFB m (fun g=>g=d) E b:=fD a;have bY:=bO rfl;have cn:_=_:=l 0 29 kR rfl;have cu:_=_:=l 11 40 kR rfl;have cv:_=_:=l 12 41 kR rfl;go_simp;have b1:Vis v b:=(VisF.trans (VisF.of_vis Q.out.1) a.1).to_vis (fun g C F=>by have:g=d:=F;omega);obtain ⟨K,Y⟩:∃K,Bk b n 180 (wcells S D K):=b1.waveC az.out;have q:=a.1.bk J.out dC dC (fun f=>absurd (show y=d from f) oM);have A:=a.1.bk a1.out dC dC (fun f=>absurd (show s=d from f) oM);have bN:TabW b:=fun u a4=>(a.2.cell (p:=⟨1,u,none⟩) (by show 1 < E.heap.size;omega) (by show ¬(1=d∨m<=1);omega)).trans (bf.out u a4);refine (aHu m n (ab r) d y s S D K r e (aL k e r) x b7 c v b Y ay.out.2 b1 oM bY q A a5 X bC.out bE.out bN aJ bM ay.out.1 oM).mono ?_;rintro F b6 ⟨rfl,bR,bU,ai⟩;exact j _ _ (kK ⟨bR,bU.mono fun g _ f=>.inr f⟩) ai
        exact aC
      · intro o z bL a l aP;replace a:VFB m (fun g=>g=d) E z:=fD a;obtain ⟨c8,b4⟩:=aP 13 dC;have b3:(fun _ O=>Bk O d 3 #[(x:Int)]) c8 z:=b4;clear b4 aP;simp only [zqq];clear l;change wpAny prog Region.Mode.any _ _ (0+bL) (bX 14 14) _ z;refine bV kR ?_;have q:=a.1.bk J.out dC dC (fun f=>absurd (show y=d from f) oM);have A:=a.1.bk a1.out dC dC (fun f=>absurd (show s=d from f) oM);have b0:VB m v z:=⟨(VisF.trans (VisF.of_vis Q.out.1) a.1).to_vis (fun g C F=>by have:g=d:=F;omega),Q.out.2.trans (a.2.mono fun g _ f=>by rcases f with f | f;(have:g=d:=f;omega);exact f)⟩;have bZ:=a.1.size;have aB:z.cell? s=some (.int .i64 (e:Int)):=(A.cell 0).trans rfl;have cN:=A.lt;obtain ⟨bn,bl,bz⟩:=hqq3 q b3 b0;clear q A b0 a b3;go_wp2_with fail;refine ⟨⟨z.heap.size,e,(e:Int) - 1,by omega,rfl,rfl,ke _ _ _,by rw [bB.out];exact bl.out.alloc _,bn.out.alloc _,bz.out.alloc _,by omega⟩,?_⟩;have c4:=((ke z 3 #[.int .i64 ((e:Int) - 1)]).cell 0);rw [aCS (c4.trans rfl),aCS b8.out];omega
end
section
def aGF {a b} (j:IsSuf (aJ a) b) {c:Nat} (f:b[c]?=some 0):(aH (aJ a) b)[c]?=some 0:=by
 unfold aH;rw [zAf,f];obtain ⟨d,e,g⟩:=eP a;show some (bM (aJ a) 0)=some 0;rw [bT oM,d];have:a.length+1 - 1=a.length:=oM;rw [this,e]
def aEW {a e} (j:IsSuf (aJ a) e):(aH (aJ a) e).count 0=1:=by
 obtain ⟨c,f,g⟩:=eP a;unfold aH;rw [List.count_eq_countP,List.countP_map,j.count,c,gZ (m:=a.length) _ (fun b=>(aJ a).getD b 0==0)]
 · rw [List.range_succ,List.countP_append];have k:(List.range a.length).countP (fun b=>(aJ a).getD b 0==0)=0:=List.countP_eq_zero.2 fun b d l=>by have:=g b (zCj.1 d);rw [zCq] at l;omega
   rw [k];simp only [List.countP_singleton,f];rfl
 · simp only [Function.comp];rw [bT oM,c];congr 2
 · intro b d;simp only [Function.comp];rw [bE oM]
def aGC {b c d} (g:b[c]?=some d) (a):cL b a (c+1)=if a=d then cL b a c+1 else cL b a c:=by
 unfold cL;rw [zAv,g,zCc];by_cases e:a=d;subst e;rw [zBx rfl];simp;omega
 · rw [zBw e];have:([d]:List Nat).count a=0:=(by rw [List.count_eq_zero];intro f;simp at f;exact e f);show _+((b.take c).count a+ [d].count a)=_;rw [this,zBq]
end
section
open Go.RowKit
def aFs (l m:Option Addr) (a t u j:Nat) (e:List Nat) (c:World) (k:Rd c j 1 l a (e.map sv)) (p:Rd c j 1 m a (e.map sv)) (n:j<=c.heap.size) (F:a<=1099511627776):
 Calls prog 23 #[.slice l a t,.slice m a u] c fun v A=>v=.returned (.bool true)/\Below c.heap.size c A:=by
 have D:e.length=a:=by have:=k.1;simpa using this
 obtain ⟨r,s⟩:=hqq2 k p;clear k p;go_enter func23,ntmps23;go_wp2_with fail;go_loopw [13] (fun i wr=>∃d:Nat,d<=a/\i=.int .i64 (d:Int)/\Below c.heap.size c wr) (fun i _=>a -(intOf i).toNat)
 case atStart=>exact ⟨0,by omega,rfl,kh _ _⟩
 case round=>
  obtain ⟨d,E,rfl,b⟩:=hrel;by_cases o:d < a
  · obtain ⟨b1,G,I,rfl,B,f,w⟩:=(r.out.below (b.mono n)).get o;obtain ⟨b2,H,J,rfl,C,g,x⟩:=(s.out.below (b.mono n)).get o;obtain ⟨q,z⟩:∃q,e[d]?=some q:=⟨_,zAa oM⟩;rw [zAf,z] at f g;injection f with f;injection g with g;subst f g;unfold sv at w x;go_wp2_with fail;go_quiet (fail);go_wp2_with fail;go_roundw
    case rel=>exact ⟨d+1,by omega,by go_num,⟨b.os,b.tape,b.output,b.size,b.block⟩⟩
    case measure=>simp [intOf];omega
  · have y:d=a:=oM;subst y;go_wp2_with fail;go_ret;exact ⟨rfl,b⟩
def yX (d e:Option Addr) (b g j c:Nat) (f:List Nat) (a:World) (l:Rd a c 1 d b (f.map sv)) (m:Rd a c 1 e b (f.map sv)) (n:c<=a.heap.size) (q:b<=1099511627776):
 Calls prog 192 #[.slice d b g,.slice e b j] a fun k r=>k=.returned (.bool true)/\Below a.heap.size a r:=by
 have p:=aFs d e b g j c f a l m n q;clear l m;go_enter func192,ntmps192;go_wp2_with fail;refine p.mono ?_;rintro k w1 ⟨rfl,o⟩;go_wp2_with fail;go_ret;exact ⟨rfl,o⟩
def zK (d e:Option Addr) (j k n o m:Nat) (b c:List UInt8) (a:World) (p:Rd a m 1 d j (b.map bv)) (q:Rd a m 1 e k (c.map bv)):
 Calls prog 22 #[.slice d j n,.slice e k o] a fun r w=>r=.returned (.bool (b==c))/\Below a.heap.size a w:=by
 have u:(convert 22 9 (.slice d j n)).run prog a=.ok (.string ⟨b.toArray⟩) a:=kN (P:=prog) 22 9 5 underlying22 underlying5 underlying9 p;have v:(convert 22 9 (.slice e k o)).run prog a=.ok (.string ⟨c.toArray⟩) a:=kN (P:=prog) 22 9 5 underlying22 underlying5 underlying9 q;obtain ⟨x,f⟩:∃l:ByteArray,⟨b.toArray⟩=l:=⟨_,rfl⟩;obtain ⟨y,g⟩:∃l:ByteArray,⟨c.toArray⟩=l:=⟨_,rfl⟩;rw [f] at u;rw [g] at v;have s:x.toList=b:=by rw [<-f,ByteArray.toList_eq]
 have t:y.toList=c:=by rw [<-g,ByteArray.toList_eq]
 clear f g p q;go_enter func22,ntmps22;go_wp2_with fail;go_ret;refine ⟨?_,kh _ _⟩;rw [<-s,<-t];rfl
def yK (e gk:Nat) (g) (n m f:Nat) (w) (a5:WalkAt w e gk g) (X:f < 257) (aB:n<=m) (a6:m<=g.length) (U:∀M∈g,M < 257) (H:g.length<=1000):
 Calls prog 119 #[gk,(n:Int),(m:Int),(f:Int)] w fun p ac=>p=.returned (.tuple #[.int .i64 ((cL g f n:Nat):Int),.int .i64 ((cL g f m:Nat):Int)])/\VB e w ac:=by
 obtain ⟨N,V⟩:=eqx g.length;obtain ⟨k,C⟩:∃k,g.countP (fun M=>decide (M < f))=k:=⟨_,rfl⟩;obtain ⟨q,D⟩:=eqx ((g.take n).count f);obtain ⟨r,E⟩:=eqx ((g.take m).count f);have ae:k<=1000:=by rw [<-C];exact zAk zBh H
 have b1:q<=1000:=by rw [<-D];exact zAk zBv (by rw [zAj];omega)
 have b2:r<=1000:=by rw [<-E];exact zAk zBv (by rw [zAj];omega)
 unfold cL;rw [C,D,E];obtain ⟨v,a4,J,K,Z⟩:=a5;have B:Hid (WalkAt w e gk g):=lhd ⟨v,a4,J,K,Z⟩;obtain ⟨s,Q⟩:=hqq2 J K;have aE:N<=1000:=oM;have aD:m<=N:=oM;obtain ⟨z,O,y,x,P,a0,a1⟩:=hqq7 X U H V C D E;have a8:max (n:Int) 0=(n:Int):=oM;have a9:min (n:Int) (N:Int)=(n:Int):=oM;have aa:min (m:Int) (N:Int)=(m:Int):=oM;have ab:max (m:Int) (n:Int)=(m:Int):=oM;clear J K Z U H C D E a6;go_enter func119,ntmps119;go_wp2_with fail;refine (fO f _ X).mono ?_;rintro p w1 ⟨rfl,W⟩;have Y:VB e w w1:=kd W;have A:=lhd Y;clear W Y;go_wp2_with fail;refine (lJ e gk g _ (B.out.vis A.out.1)).mono ?_;rintro p l ⟨rfl,rfl⟩;rw [x.out];go_wp2_with fail;refine (lJ e gk g _ (B.out.vis A.out.1)).mono ?_;rintro p l ⟨rfl,rfl⟩;rw [x.out];go_wp2_with fail;have o:=lhd A.out;clear A a8 a9 aa ab V;obtain ⟨l,a7⟩:∃l,l=w1:=⟨_,rfl⟩;subst a7;refine wp_region_any kR ?_;refine aO [28,29,30,31,32,33,34,35,36,37,38,39,40,41,42,43,44,45,46,47,48,49,8,9] (VB e) (Vs [is gk,is (f:Int),is (k:Int),is gk,is gk,is gk,is v,is (n:Int),is (f:Int),is (q:Int),is (.int .i64 ((k+q:Nat):Int)),is gk,is (f:Int),is (k:Int),is gk,is gk,is gk,is v,is (m:Int),is (f:Int),is (r:Int),is (.int .i64 ((k+r:Nat):Int)),is (.int .i64 ((k+q:Nat):Int)),is (.int .i64 ((k+r:Nat):Int))]) _ _ rfl kR vR (fun _ _=>VisK.trans) (cS tA1) ?_ ?_
 · refine aK ?_;refine pH 0 (.pointer (some gk)) ?_;refine pH 3 (.int .i64 (f:Int)) ?_;refine sC (fun _ d a _ _ _ b _ _ _ c=>?_) ?_
   · have af:_=_:=b 0 28 kR rfl;have ag:_=_:=b 1 29 kR rfl;replace a:(VB e) l d:=bD a;go_simp;refine (jB e gk g f d (B.out.vis (o.out.trans a).1) z.out y.out).mono ?_;rintro p L ⟨rfl,G⟩;rw [P.out];exact c _ _ (kd G) rfl
   refine pH 0 (.pointer (some gk)) ?_;refine sC (fun _ d a _ _ _ b _ _ _ c=>?_) ?_
   · have ai:_=_:=b 3 31 kR rfl;replace a:(VB e) l d:=bD a;have j:=(o.out.trans a).1.bk s.out dC dC;have t:=j.cell 0;have u:=j.cell 1;go_simp;exact c _ _ vR rfl
   refine sC (fun _ d a _ _ _ b _ _ _ c=>?_) ?_
   · have aj:_=_:=b 4 32 kR rfl;replace a:(VB e) l d:=bD a;have j:=(o.out.trans a).1.bk s.out dC dC;have t:=j.cell 0;have u:=j.cell 1;go_simp;exact c _ _ vR rfl
   refine sC (fun _ d a _ _ _ b _ _ _ c=>?_) ?_
   · have ak:_=_:=b 5 33 kR rfl;replace a:(VB e) l d:=bD a;have j:=(o.out.trans a).1.bk s.out dC dC;have t:=j.cell 0;have u:=j.cell 1;go_simp;exact c _ _ vR rfl
   refine pH 1 (.int .i64 (n:Int)) ?_;refine pH 3 (.int .i64 (f:Int)) ?_;refine sC (fun _ d a _ _ _ b _ _ _ c=>?_) ?_
   · have al:_=_:=b 6 34 kR rfl;have am:_=_:=b 7 35 kR rfl;have an:_=_:=b 8 36 kR rfl;replace a:(VB e) l d:=bD a;go_simp;refine (iP e v g n f d (Q.out.vis (o.out.trans a).1) z.out (by rw [x.out];omega) O.out y.out).mono ?_;rintro p L ⟨rfl,I⟩;rw [a0.out];exact c _ _ I rfl
   refine sC (fun _ _ _ _ _ _ b _ _ _ c=>?_) ?_
   · have ah:_=_:=b 2 30 kR rfl;have ao:_=_:=b 9 37 kR rfl;have F:IntKind.i64.wrap ((k:Int)+(q:Int))=((k+q:Nat):Int):=(by rw [wI0];omega);go_simp;exact c _ _ vR (by first | rfl | exact F | simp [is])
   refine pH 0 (.pointer (some gk)) ?_;refine pH 3 (.int .i64 (f:Int)) ?_;refine sC (fun _ d a _ _ _ b _ _ _ c=>?_) ?_
   · have ap:_=_:=b 11 39 kR rfl;have aq:_=_:=b 12 40 kR rfl;replace a:(VB e) l d:=bD a;go_simp;refine (jB e gk g f d (B.out.vis (o.out.trans a).1) z.out y.out).mono ?_;rintro p L ⟨rfl,G⟩;rw [P.out];exact c _ _ (kd G) rfl
   refine pH 0 (.pointer (some gk)) ?_;refine sC (fun _ d a _ _ _ b _ _ _ c=>?_) ?_
   · have au:_=_:=b 14 42 kR rfl;replace a:(VB e) l d:=bD a;have j:=(o.out.trans a).1.bk s.out dC dC;have t:=j.cell 0;have u:=j.cell 1;go_simp;exact c _ _ vR rfl
   refine sC (fun _ d a _ _ _ b _ _ _ c=>?_) ?_
   · have av:_=_:=b 15 43 kR rfl;replace a:(VB e) l d:=bD a;have j:=(o.out.trans a).1.bk s.out dC dC;have t:=j.cell 0;have u:=j.cell 1;go_simp;exact c _ _ vR rfl
   refine sC (fun _ d a _ _ _ b _ _ _ c=>?_) ?_
   · have aw:_=_:=b 16 44 kR rfl;replace a:(VB e) l d:=bD a;have j:=(o.out.trans a).1.bk s.out dC dC;have t:=j.cell 0;have u:=j.cell 1;go_simp;exact c _ _ vR rfl
   refine pH 2 (.int .i64 (m:Int)) ?_;refine pH 3 (.int .i64 (f:Int)) ?_;refine sC (fun _ d a _ _ _ b _ _ _ c=>?_) ?_
   · have ax:_=_:=b 17 45 kR rfl;have ay:_=_:=b 18 46 kR rfl;have az:_=_:=b 19 47 kR rfl;replace a:(VB e) l d:=bD a;go_simp;refine (iP e v g m f d (Q.out.vis (o.out.trans a).1) z.out (by rw [x.out];omega) O.out y.out).mono ?_;rintro p L ⟨rfl,I⟩;rw [a1.out];exact c _ _ I rfl
   refine sC (fun _ _ _ _ _ _ b _ _ _ c=>?_) ?_
   · have ar:_=_:=b 13 41 kR rfl;have aA:_=_:=b 20 48 kR rfl;have F:IntKind.i64.wrap ((k:Int)+(r:Int))=((k+r:Nat):Int):=(by rw [wI0];omega);go_simp;exact c _ _ vR (by first | rfl | exact F | simp [is])
   refine pV 10 38 ?_;refine pV 21 49 ?_;exact aC
 · intro T ad a b;replace a:(VB e) l ad:=bD a;have a2:T (.tmp 8)=.int .i64 ((k+q:Nat):Int):=b 22 8 rfl;have a3:T (.tmp 9)=.int .i64 ((k+r:Nat):Int):=b 23 9 rfl;simp only [zqq];rw [a2];rw [a3];clear b;go_wp2_with fail;go_ret2;exact ⟨rfl,o.out.trans a⟩
end
end Go.Proofs.YtecdldbdednahaaGreatDoor
