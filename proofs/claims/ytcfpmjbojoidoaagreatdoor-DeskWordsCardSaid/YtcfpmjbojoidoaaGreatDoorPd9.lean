/- Lemmas of the walk. Conditions: each its own. -/
import Derived.Test.YtcfpmjbojoidoaaGreatDoorPd6
import Derived.Test.YtcfpmjbojoidoaaGreatDoorPd7
import Derived.Test.YtcfpmjbojoidoaaGreatDoorProg
import Derived.Test.YtcfpmjbojoidoaaGreatDoorShl
set_option linter.all false
set_option maxRecDepth 100000
set_option maxHeartbeats 4000000
open Go.Proofs.Tryz
namespace Go.Proofs.YtcfpmjbojoidoaaGreatDoor
section
open Go.RowKit
def rQ:(prog.info? 106).map (fun i=>(i.zero,i.size,i.bytes))=some (some (.agg #[.int .i64 0,.int .i64 0]),2,16):=by kernel_rfl
def PF (c b:Nat) (d e f:Value) (a:Nat):Prop:=a=c∨a=b∨d.ownBlock=some a∨e.ownBlock=some a∨f.ownBlock=some a
def jL (a:List (Nat×Nat)) (b:Nat×Nat):bJ (a++ [b])=bJ a++lQ b:=by simp [bJ]
def PermAt.below {c q:World} {B j g:Nat} {n o p m:Value} {R e:Nat} {k:List Nat} {d:List (Nat×Nat)} {l:List Bool} {f:List Nat} (a:PermAt c B j g n o p m R e k d l f) (b:Below c.heap.size c q):PermAt q B j g n o p m R e k d l f:=
 ⟨a.blk.below b a.blk.lt,aQ a.lrow b,aQ a.orow b,a.ar.below b a.ar.lt,aQ a.trow b,aQ a.frow b,a.apart,a.lt,a.lo⟩
def fQ {f:Nat->Prop} {d m:World} {e:Nat} {c:TypeId} {k j:Nat} {l:Value} {n:List Value} (p:d.ownsRow e c k l j n) (r:Keep f d m) (q:∀a b,f a->Bk d a c b->False):m.ownsRow e c k l j n:=
 aA p fun a b _ g=>r.bk g (fun o=>q a b o g)
def aGQ {w:World} {B g cap:Nat} {C:List (Nat×Nat)} {y:Nat×Nat} (l:w.ownsRow B 106 2 (.slice (some g) (C.length+1) cap) (C.length+1) (bJ (C++ [y]))) (a:Nat×Nat):
 ((w.setCell ⟨g,C.length*2,none⟩ (.int .i64 (a.1:Int))).setCell ⟨g,C.length*2+1,none⟩ (.int .i64 (a.2:Int))).ownsRow B 106 2 (.slice (some g) (C.length+1) cap) (C.length+1) (bJ (C++ [a])):=by
 rcases l.2 with ⟨b,_⟩|⟨x,v,k,b,m,n,o,p,q,d⟩
 · cases b
 · injection b with h8 h9 h10;injection h8 with h8;injection h8 with h8 _;subst h8 h10;have r:Bk w g 106 k:=n;have s:=(r.set (C.length*2) (.int .i64 (a.1:Int))).set (C.length*2+1) (.int .i64 (a.2:Int));refine ⟨by rw [cV];simp,.inr ⟨g,cap,_,rfl,m,s,o,p,by simpa using q,?_⟩⟩;rw [jL] at d⊢;have e:=cV C;apply List.ext_getElem?;intro i;have c:=congrArg (fun t=>t[i]?) d;simp only [zBs,Array.getElem?_toList] at c;rw [zBs,Array.getElem?_toList,zCd,zCd];by_cases u:i < C.length*2
   · rw [zBx oM] at c⊢;rw [zBw oM,zBw oM,c,zAn oM,zAn oM]
   · by_cases f:i=C.length*2;subst f;rw [zBx oM,zBw oM,zBx rfl,zBx oM,zAo oM,e,Nat.sub_self];rfl
     · by_cases j:i=C.length*2+1;subst j;rw [zBx oM,zBx rfl,zBx (by simp;omega),zAo oM,e,show C.length*2+1 - C.length*2=1 by omega];rfl
       · rw [zBw oM,zBg (by simp [lQ];omega)]
def aCu (m c z:Nat) (t u F:Value) (R Y:Nat) (o:List Nat) (k:List (Nat×Nat)) (U:List Bool) (row A:Nat) (x:World) (r:PermAt x m c z t u F (.slice none 0 0) R Y o k U []) (bP:o.Pairwise (fun ch f=>aB k ch < aB k f))
 (aY:∀j∈o,aB k j < row) (bO:∀j∈o,aG k j≠A) (cS:row < R) (cR:A < Y) (ag:U.length=k.length) (ct:k.length<=900000) (s:o.length<=900000) (bu:m<=x.heap.size):
 Calls prog 27 #[c,(row:Int),(A:Int)] x fun J v=>J=.returned (.int .i64 0)/\Keep (PF c z t u F) x v/\∃b7 b8 a6,PermAt v m c z b7 b8 a6 (.slice none 0 0) R Y (o++ [k.length]) (k++ [(row,A)]) (U++ [true]) []/\(b8.ownBlock=u.ownBlock∨∃e,b8.ownBlock=some e/\x.heap.size<=e)/\(b7.ownBlock=t.ownBlock∨∃e,b7.ownBlock=some e/\x.heap.size<=e)/\(a6.ownBlock=F.ownBlock∨∃e,a6.ownBlock=some e/\x.heap.size<=e):=by
 obtain ⟨cE,cx,cB,cC,cD⟩:=info_parts rQ;have bA:o.countP (fun j=>decide (aB k j < row))=o.length:=List.countP_eq_length.2 fun j s=>by simpa using aY j s
 have bB:decide (∃j∈o,aB k j=row)=false:=by rw [decide_eq_false_iff_not];rintro ⟨j,s,J⟩;have:=aY j s;omega
 have bJ:iI (fun j=>decide (aG k j=A)) o 0=-1:=jO (fun j s=>by simpa using bO j s) 0;have cj:x.cell? ⟨c,3,none⟩=some (.int .i64 (R:Int)):=(r.blk.cell 3).trans rfl;have ck:x.cell? ⟨c,4,none⟩=some (.int .i64 (Y:Int)):=(r.blk.cell 4).trans rfl;have a9:=jH m c z t u F (.slice none 0 0) R Y o k U [] row x r bP oM;rw [bA,bB] at a9;have aQ:=fun cg cu=>iF m c z t u F (.slice none 0 0) R Y o k U [] A cg cu oM;simp only [bJ] at aQ;obtain ⟨E,aV⟩:=eqx o.length;obtain ⟨N,bv⟩:=eqx k.length;rw [aV] at a9;obtain ⟨bi,an,ay,I,bm⟩:=hqq5 aQ r aV bv ag;have cQ:N<=900000:=oM;have cU:E<=900000:=oM;have ap:=lhd bu;clear bA bB bJ aQ bP aY bO r aV bv ag ct s bu;go_enter func27,ntmps27;go_wp2_with fail;refine a9.mono ?_;clear a9;rintro J w1 ⟨rfl,aH⟩;have O:=an.out.below aH;obtain ⟨ao,aq⟩:=hqq2 O aH;clear O aH cj ck;go_wp2_with fail;refine (bi.out w1 ao.out).mono ?_;rintro J V ⟨rfl,aI⟩;have a0:=ao.out.below aI;have bx:=aq.out.trans (aI.mono aq.out.size);have ci:V.cell? c=some (.pointer (some z)):=(a0.blk.cell 0).trans rfl;obtain ⟨n,L⟩:=hqq2 a0 bx;clear a0 bx aI ao aq bi;go_wp2_with fail;obtain ⟨bd,bq,al,_⟩:=aP n.out.trow;have ah:U.length=N:=by rw [bm.out,I.out]
 have aE:=qN m z bd bq none 0 N U V (by have:=n.out.ar;rw [al,ah] at this;exact this) (by have:=n.out.trow;rw [al,ah] at this;exact this) (by have:=ap.out;have:=L.out.size;omega) oM;have bY:F=.slice bd N bq:=by rw [al,ah]
 rw [<-bY] at aE;refine aE.mono ?_;clear aE al bY ah;rintro J b9 ⟨rfl,a1,a6,bz,bN,bC⟩;have a4:=a1.bk n.out.blk (fun a=>by
  rcases a with a | a;exact Bk.ne n.out.blk n.out.ar dC a
  · exact aT n.out.trow n.out.blk dC a.symm)
 have ai:=fQ n.out.lrow a1 (fun f l a b=>by
  rcases a with a | a;subst a;exact Bk.ne b n.out.ar dC rfl
  · exact aT n.out.trow b dC a.symm)
 have bV:=fQ n.out.orow a1 (fun f l a b=>by
  rcases a with a | a;subst a;exact Bk.ne b n.out.ar dC rfl
  · exact aT n.out.trow b dC a.symm)
 obtain ⟨c4,cm,bS,_⟩:=aP ai;have b0:t=.slice c4 N cm:=by rw [bS,I.out]
 have a3:b9.cell? ⟨c,1,none⟩=some t:=(a4.cell 1).trans rfl;have cp:=a4.frozen 1;rw [b0] at a3;have cw:=a4.lt;rw [I.out] at ai;have cs:m<=b9.heap.size:=by have:=a1.size;have:=ap.out;have:=L.out.size;omega
 obtain ⟨ax,av,bl,c5,aw,X,bo,bn⟩:=hqq8 a1 bz bN bC a4 ai bV b0;have cn:=(World.cell?_alloc_lt b9 (Obj.cells #[.int .i64 0,.int .i64 0] 106) ⟨c,1,none⟩ cw).trans a3;clear a1 bz bN bC a4 ai bV bS b0 ci;go_wp2_with fail;refine wp_loop_rounds 2 ?_;rw [rounds_succ];go_wp2_with (at_builtin;refine bM _ rfl (.tmp 72) (.tmp 74) _ rfl m 106 cE (.agg #[.int .i64 0,.int .i64 0]) 2 16 underlying81 cx cB cC cD rfl dC t N _ bn.out.symm X.out rfl rfl (by simp [Value.oneCell']) (by unfold maxLen;omega) oM cs ?_;intro cW H aW aL cV bw;have aa:=aw.out.grown aL (aT X.out aw.out dC);have bs:H.cell? ⟨c,1,none⟩=some t:=(aa.cell 1).trans rfl;have co:=aa.frozen 1;rw [bn.out] at bs;obtain ⟨c3,q,rfl,cA⟩:=aU aW;obtain ⟨M,az,a2,be⟩:=hqq4 aa aW aL bw;clear cA aW aL bw aa);obtain ⟨d,br,rfl,cT,aK,cv⟩:∃d,∃a7:Array Value,c3=some ⟨d,0,none⟩/\m<=d/\Bk H d 106 a7/\N*2+1 < a7.size:=by rcases az.out.2 with ⟨O,a0⟩|⟨e,cl,a7,O,a0,cr,cK,cL,cM,cN⟩;omega;injection O with O _ _;exact ⟨e,a7,O,a0,cr,by omega⟩
 have bI:c≠d:=Bk.ne M.out aK dC;have a5:=M.out.set 1 (.slice (some ⟨d,0,none⟩) (N+1) q);have P:=aK.far (p:=⟨c,1,none⟩) (fun J=>bI J.symm) (.slice (some ⟨d,0,none⟩) (N+1) q);have aR:Keep (PF c z t u F) V (H.setCell ⟨c,1,none⟩ (.slice (some ⟨d,0,none⟩) (N+1) q)):=
  ((ax.out.mono (G:=PF c z t u F) (fun f _ a=>by rcases a with a | a;exact .inr (.inl a);exact .inr (.inr (.inr (.inr a))))).grown a2.out (fun j s=>.inl (.inr (.inr (.inl s))))).setCell (.inl (.inl rfl)) _
 have b1:=aA (w':=H.setCell ⟨c,1,none⟩ (.slice (some ⟨d,0,none⟩) (N+1) q)) az.out fun f l _ b=>b.far (p:=⟨c,1,none⟩) (Bk.ne b M.out dC) _;have bW:=aA (w':=H) bo.out fun f l _ b=>b.grown a2.out (aT X.out b dC);have ak:=aA (w':=H.setCell ⟨c,1,none⟩ (.slice (some ⟨d,0,none⟩) (N+1) q)) bW fun f l _ b=>b.far (p:=⟨c,1,none⟩) (Bk.ne b M.out dC) _;have aN:=av.out.grown a2.out (aT X.out av.out dC);have aO:=aN.far (p:=⟨c,1,none⟩) (Bk.ne aN M.out dC) (.slice (some ⟨d,0,none⟩) (N+1) q);have bZ:=aA (w':=H) bl.out fun f l _ b=>b.grown a2.out (aT X.out b dC);have b4:=aA (w':=H.setCell ⟨c,1,none⟩ (.slice (some ⟨d,0,none⟩) (N+1) q)) bZ fun f l _ b=>b.far (p:=⟨c,1,none⟩) (Bk.ne b M.out dC) _;have bD:(Value.slice (some ⟨d,0,none⟩) (N+1) q).ownBlock=t.ownBlock∨∃e,(Value.slice (some ⟨d,0,none⟩) (N+1) q).ownBlock=some e/\V.heap.size<=e:=by rcases be.out with a | a;exact .inl a;exact .inr ⟨_,a,by have:=ax.out.size;omega⟩
 clear ax av bl aw X bo M az a2 be a3 cp cn co bs bW aN bZ;generalize H.setCell ⟨c,1,none⟩ (.slice (some ⟨d,0,none⟩) (N+1) q)=w6 at a5 P aR b1 ak aO b4⊢;have a3:w6.cell? ⟨c,1,none⟩=some (.slice (some ⟨d,0,none⟩) (N+1) q):=(a5.cell 1).trans rfl;have ba:=P.cell (N*2);have bb:=P.cell (N*2+1);rw [zAq oM] at ba bb;have cF:=P.frozen (N*2);have cG:=P.frozen (N*2+1);generalize br[N*2]' oM=u0 at ba;generalize br[N*2+1]' oM=u1 at bb;obtain ⟨c8,au,bj,cb,cd,bg,ce,bf⟩:=hqq8 a5 P aR b1 ak aO b4 bD;have cy:decide (N+1<=N)=false:=by simp
 have cz:decide ((N:Int)+1<=(N:Int))=false:=by simp;omega
 have a8:w6.cell? ⟨c,2,none⟩=some u:=(a5.cell 2).trans rfl;obtain ⟨bc,bp,bU,_⟩:=aP ak;have b3:u=.slice bc E bp:=by rw [bU,ay.out]
 have aC:=lhd b3;rw [b3] at a8;clear a5 P aR b1 ak aO b4 bD bU b3 aK cv;rw [rounds_succ];go_wp2_with fail
 have aj:=aGQ (C:=k) (y:=(0,0)) (g:=d) (cap:=q) (w:=w6) (B:=m) (by
  rw [I.out,jL];exact cb.out) (row,A)
 rw [I.out] at aj;have T:Keep (fun f=>f=d) w6 ((w6.setCell ⟨d,N*2,none⟩ (.int .i64 (row:Int))).setCell ⟨d,N*2+1,none⟩ (.int .i64 (A:Int))):=((Keep.refl (fun f=>f=d) w6).setCell (p:=⟨d,N*2,none⟩) (.inl rfl) _).setCell (p:=⟨d,N*2+1,none⟩) (.inl rfl) _;have aZ:((w6.setCell ⟨d,N*2,none⟩ (.int .i64 (row:Int))).setCell ⟨d,N*2+1,none⟩ (.int .i64 (A:Int))).heap.size=w6.heap.size:=by simp [World.setCell]
 rw [<-aZ];clear ba bb cF cG a3 a8 cy cz;generalize (w6.setCell ⟨d,N*2,none⟩ (.int .i64 (row:Int))).setCell ⟨d,N*2+1,none⟩ (.int .i64 (A:Int))=w7 at aj T aZ⊢;have bH:=T.bk c8.out (fun a=>bI a);have bF:=T.bk bg.out (fun a=>by subst a;exact Bk.ne bg.out au.out dC rfl);have bX:=fQ cd.out T (fun f l a b=>by subst a;exact Bk.ne b au.out dC rfl);have c0:=fQ ce.out T (fun f l a b=>by subst a;exact Bk.ne b au.out dC rfl);have cO:m<=V.heap.size:=by have:=ap.out;have:=L.out.size;omega
 have cP:=bj.out.size;have aD:m<=(w7.alloc (.cells #[(N:Int)] 3)).heap.size:=by simp;omega
 have b6:w7.heap.size < (w7.alloc (.cells #[(N:Int)] 3)).heap.size:=by simp
 have af:Rd (w7.alloc (.cells #[(N:Int)] 3)) (w7.alloc (.cells #[(N:Int)] 3)).heap.size 1 (some ⟨w7.heap.size,0,none⟩) 1 [sv N]:=(Rd.new_ w7 3 1 #[(N:Int)] rfl).mono (by simp);have D:=bX.alloc (.cells #[(N:Int)] 3);have b2:=aj.alloc (.cells #[(N:Int)] 3);have b5:=c0.alloc (.cells #[(N:Int)] 3);have ac:=bH.alloc (.cells #[(N:Int)] 3);have ab:=bF.alloc (.cells #[(N:Int)] 3);have aJ:Below w7.heap.size w7 (w7.alloc (.cells #[(N:Int)] 3)):=bR.alloc nL _;obtain ⟨cq,aM⟩:=eqx w7.heap.size;rw [aM] at af b6;rw [aM];generalize w7.alloc (.cells #[(N:Int)] 3)=w8 at aD af D b2 b5 ac ab aJ b6⊢;have aS:Keep (PF c z t u F) V w8:=(bj.out.trans' (T.trans' (Keep.of_below aJ) (fun _ _ a=>a)) (fun f b a=>by
  rcases bf.out with r |⟨e,r,cJ⟩;exact .inr (.inr (.inl (by rw [<-r,a];rfl)))
  · exfalso;have:d=e:=(by simpa [Value.ownBlock] using r);omega))
 rw [ay.out,aC.out] at D;have bK:=nY m bc E bp (o.map sv) (some ⟨cq,0,none⟩) 1 N w8 D af aD oM;refine bK.mono ?_;clear bK;rintro J K ⟨c2,rfl,aX,Q,aF⟩;rw [<-aC.out] at Q aF D;have ad:=ac.grown Q (aT D ac dC);have bG:=ab.grown Q (aT D ab dC);have bT:=aA (w':=K) b2 fun f l _ b=>b.grown Q (aT D b dC);have c1:=aA (w':=K) b5 fun f l _ b=>b.grown Q (aT D b dC);have bL:=aS.grown Q (fun j s=>.inl (.inr (.inr (.inr (.inl s)))));have bE:c2.ownBlock=u.ownBlock∨∃e,c2.ownBlock=some e/\V.heap.size<=e:=by rcases aF with a | a;exact .inl a;exact .inr ⟨_,a,aS.size⟩
 have a8:K.cell? ⟨c,2,none⟩=some u:=(ad.cell 2).trans rfl;rw [aC.out] at a8;have cI:=ad.frozen 2;obtain ⟨W,Z,bQ,_⟩:=aP aX;obtain ⟨cH,bh,c7,cc,cf,ca,c9,c6⟩:=hqq8 bQ ad bG bT c1 aX bL bE;clear aj T aZ bH bF bX c0 aD b6 af D b2 b5 ac ab aJ aM aS Q aF ad bG bT c1 aX bL bE;subst bQ;go_wp2_with fail;go_ret;have ae:∀f am l,Bk K f am l->am≠104->Bk (K.setCell ⟨c,2,none⟩ (.slice W (E+1) Z)) f am l:=fun f am l b ag=>b.far (p:=⟨c,2,none⟩) (Bk.ne b bh.out ag) _;refine ⟨rfl,(Keep.of_below L.out).trans' (c9.out.setCell (.inl (.inl rfl)) _) (fun _ _ a=>a),.slice (some ⟨d,0,none⟩) (N+1) q,.slice W (E+1) Z,a6,⟨bh.out.set 2 _,?_,?_,ae _ _ _ c7.out dC,?_,?_,?_,?_,an.out.lo⟩,?_,?_,?_⟩;have:=aA (w':=K.setCell ⟨c,2,none⟩ (.slice W (E+1) Z)) cc.out fun f l _ b=>ae _ _ _ b dC;simpa [I.out] using this;have:=aA (w':=K.setCell ⟨c,2,none⟩ (.slice W (E+1) Z)) ca.out fun f l _ b=>ae _ _ _ b dC;simpa [ay.out,I.out] using this;have:=aA (w':=K.setCell ⟨c,2,none⟩ (.slice W (E+1) Z)) cf.out fun f l _ b=>ae _ _ _ b dC;simpa [bm.out,I.out] using this;exact World.ownsRow_nil _ _ _ _;rcases (Value.slice W (E+1) Z).ownBlock with _ | e;exact .inl rfl;exact .inr (by simp [Value.ownBlock]);intro j s;rcases zCo.1 s with r | r;have:=an.out.lt j r;simp;omega;simp at r;simp;omega;rcases c6.out with a |⟨e,a,bt⟩;exact .inl a;exact .inr ⟨e,a,by have:=L.out.size;omega⟩;rcases bf.out with a |⟨e,a,bt⟩;exact .inl a;exact .inr ⟨e,a,by have:=L.out.size;omega⟩;rcases c5.out with a |⟨e,a,bt⟩;exact .inl a;exact .inr ⟨e,a,by have:=L.out.size;omega⟩
def aCs (a:Nat) (b:World) (q:a<=2147483648):
 Calls prog 25 #[(a:Int),.slice none 0 0] b fun e k=>∃f m,e=.returned (.tuple #[.pointer (some ⟨f,0,none⟩),.int .i64 0])/\PermAt k b.heap.size f m (.slice none 0 0) (.slice none 0 0) (.slice none 0 0) (.slice none 0 0) a a [] [] [] []/\Below b.heap.size b k:=by
 have o:¬((a:Int) < 0):=oM;have p:¬((a:Int) > 2147483648):=oM;go_enter func25,ntmps25;go_wp2_with fail;refine (rF _).mono ?_;rintro e w1 ⟨rfl,c,g⟩;obtain ⟨l,d⟩:=hqq2 c g;have r:=c.lt;clear c g;go_wp2_with fail;refine wp_loop_rounds 1 ?_;rw [rounds_succ];go_wp2_with fail;go_ret2;have j:=d.out.size;exact ⟨_,_,rfl,⟨Bk.new _ _ _,World.ownsRow_nil _ _ _ _,World.ownsRow_nil _ _ _ _,l.out.alloc _,World.ownsRow_nil _ _ _ _,World.ownsRow_nil _ _ _ _,.inl rfl,fun s n=>(by cases n),⟨j,zAs _⟩⟩,d.out.alloc j _⟩
def cK (a:List Nat) (c b:Nat):List (Nat×Nat):=((List.range b).filter fun i=>a.getD i 0 % c==0).map fun i=>(i,a.getD i 0)
def aCZ (b:List Nat) (c a:Nat):cK b c (a+1)=if b.getD a 0 % c=0 then cK b c a++ [(a,b.getD a 0)] else cK b c a:=by
 unfold cK;rw [List.range_succ,List.filter_append,zAz];by_cases d:b.getD a 0 % c=0
 · rw [zBx d];simp only [List.filter_cons,d,beq_self_eq_true,if_true,List.filter_nil,List.map_cons,List.map_nil]
 · rw [zBw d];have:(b.getD a 0 % c==0)=false:=(by simpa using d);simp only [List.filter_cons,this,Bool.false_eq_true,if_false,List.filter_nil,List.map_nil,List.append_nil]
def mR {d:List Nat} {f c:Nat} {a:Nat×Nat} (b:a∈cK d f c):a.1 < c/\a.2=d.getD a.1 0:=by
 unfold cK at b;obtain ⟨i,e,rfl⟩:=zAy.1 b;have:=(zCv.1 e).1;exact ⟨by simpa using this,rfl⟩
def pD (e:List Nat) (d c:Nat):(cK e d c).Pairwise (fun a b=>a.1 < b.1):=by
 unfold cK;rw [List.pairwise_map];exact List.Pairwise.filter _ List.pairwise_lt_range
def aBw {C:List (Nat×Nat)} {a:Nat} (b:a < C.length):(aB C a,aG C a)∈C:=by
 unfold aB aG;rw [zAb,zAa b];exact zBj b
def aBv {a:List (Nat×Nat)} (g:a.Pairwise (fun b c=>b.1 < c.1)):(List.range a.length).Pairwise (fun b c=>aB a b < aB a c):=by
 rw [zAr];intro i f j l k;have d:i < a.length:=by simpa using j
 have e:f < a.length:=by simpa using l
 have:=zAr.1 g i f d e k;simp only [List.getElem_range];unfold aB;rw [zAb,zAb,zAa d,zAa e];exact this
def Apt.next2 {j f:Value} {c:Option Addr} {N:Nat} (k:Apt j c) (m:f.ownBlock=j.ownBlock∨∃e,f.ownBlock=some e/\N<=e) (l:∀a,c=some a->a.block < N):Apt f c:=by
 intro a g b;rcases m with d |⟨e,d,n⟩;exact k a g (d.symm.trans b);rw [d] at b;injection b with b;have:=l a g;omega
def PermAt.foot {r:World} {c f e:Nat} {g j k q:Value} {R m:Nat} {o:List Nat} {l:List (Nat×Nat)} {p:List Bool} {n:List Nat} (b:PermAt r c f e g j k q R m o l p n) {d:Nat} (a:PF f e g j k d):c<=d:=by
 rcases a with rfl | rfl | a | a | a;exact b.lo.1;exact b.lo.2;exact (b.lrow.lt _ a).1;exact (b.orow.lt _ a).1;exact (b.trow.lt _ a).1
def PermAt.keep {F:Nat->Prop} {j x:World} {k p o:Nat} {u v w t:Value} {R m:Nat} {q:List Nat} {l:List (Nat×Nat)} {s:List Bool} {n:List Nat} (b:PermAt j k p o u v w t R m q l s n) (f:Keep F j x)
 (e:∀d r g,F d->Bk j d r g->r∉ [104,106,3,150,4]):PermAt x k p o u v w t R m q l s n:=
 ⟨f.bk b.blk (fun a=>e _ _ _ a b.blk dC),fQ b.lrow f (fun d g a c=>e _ _ _ a c dC),fQ b.orow f (fun d g a c=>e _ _ _ a c dC),f.bk b.ar (fun a=>e _ _ _ a b.ar dC),fQ b.trow f (fun d g a c=>e _ _ _ a c dC),fQ b.frow f (fun d g a c=>e _ _ _ a c dC),b.apart,b.lt,b.lo⟩
structure LvInv (w2:World) (B1 B3 gl gk gp ga n rate:Nat) (A3:Option Addr) (c3:Nat) (rs:List Nat) (k:Nat) (vl vo vt:Value) (tk:List Bool) (wr:World):Prop where
 perm:PermAt wr B1 gp ga vl vo vt (.slice none 0 0) n n (List.range (cK rs rate k).length) (cK rs rate k) tk []
 len:tk.length=(cK rs rate k).length
 apt:Apt vo A3
 row:wr.ownsRow B3 3 1 (.slice A3 n c3) n (rs.map sv)
 blk:Bk wr gl 69 #[gk,gp,(rate:Int),.int .i64 0]
 below:Below w2.heap.size w2 wr
structure LiveAt (w:World) (Bw gl gk gp ga:Nat) (vl vo vt:Value) (B n rate:Nat) (L:List Nat) (C:List (Nat×Nat)) (tk:List Bool):Prop where
 blk:Bk w gl 69 #[gk,gp,(rate:Int),.int .i64 0]
 walk:WalkAt w Bw gk L
 perm:PermAt w B gp ga vl vo vt (.slice none 0 0) n n (List.range C.length) C tk []
end
section
open Go.RowKit Go.Shelf
def ShelfRow.same {p w':World} {e:Nat} {o:Value} {f:List Nat} {l m:Nat} (r:ShelfRow p e o f l m) (k:∀a d b,Bk p a d b->Bk w' a d b):ShelfRow w' e o f l m:=by
 obtain ⟨q,s,g⟩:=r;exact ⟨q,aA s fun a b _ c=>k _ _ _ c,fun n j=>⟨(g n j).1,(g n j).2.same fun a d b _ c=>k _ _ _ c⟩⟩
def WalkAt.same {g w':World} {b gk:Nat} {c:List Nat} (l:WalkAt g b gk c) (a:∀d f e,Bk g d f e->Bk w' d f e):WalkAt w' b gk c:=by
 obtain ⟨k,j,n,⟨m,S,t,o,p⟩,q⟩:=l;exact ⟨k,j,a _ _ _ n,⟨m,S,t,a _ _ _ o,fun s r=>(p s r).same a⟩,a _ _ _ q⟩
def LvW (a:World) (b d:Nat) (c:List Nat):Prop:=∃gk e f g,Bk a d 69 #[.pointer (some ⟨gk,0,none⟩),e,f,g]/\WalkAt a b gk c
def LvW.vis {e w':World} {a c:Nat} {b:List Nat} (f:LvW e a c b) (d:Vis e w'):LvW w' a c b:=by
 obtain ⟨gk,k,l,m,g,j⟩:=f;exact ⟨gk,k,l,m,d.bk g dC dC,j.vis d⟩
def LvW.same {j w':World} {a e:Nat} {b:List Nat} (k:LvW j a e b) (f:∀c g d,Bk j c g d->Bk w' c g d):LvW w' a e b:=by
 obtain ⟨gk,n,o,p,l,m⟩:=k;exact ⟨gk,n,o,p,f _ _ _ l,m.same f⟩
def LvW.lt {b:World} {c a:Nat} {d:List Nat} (e:LvW b c a d):a < b.heap.size:=by
 obtain ⟨gk,j,k,l,f,g⟩:=e;exact f.lt
def ShelfRow.sameT {p q:World} {e:Nat} {o:Value} {f:List Nat} {l m:Nat} (s:ShelfRow p e o f l m) (k:∀a c b,c≠3->Bk p a c b->Bk q a c b):ShelfRow q e o f l m:=by
 obtain ⟨r,t,g⟩:=s;exact ⟨r,aA t fun a b _ d=>k _ _ _ dC d,fun n j=>⟨(g n j).1,(g n j).2.same fun a c b u d=>k _ _ _ (by rintro rfl;revert u;decide) d⟩⟩
def LvW.sameT {j k:World} {c g:Nat} {d:List Nat} (n:LvW j c g d) (a:∀e b f,b≠3->Bk j e b f->Bk k e b f):LvW k c g d:=by
 obtain ⟨gk,w,x,y,o,m,l,p,⟨t,S,z,q,r⟩,s⟩:=n;exact ⟨gk,w,x,y,a _ _ _ dC o,m,l,a _ _ _ dC p,⟨t,S,z,a _ _ _ dC q,fun v u=>(r v u).sameT a⟩,a _ _ _ dC s⟩
def LvW.visI {l d:World} {o q b:Nat} {e A:Value} {p:List Nat} (t:LvW l o q p) (g:VisF (fun a=>a=b) l d) (u:Bk l b 3 #[e]) (v:Bk d b 3 #[A]):LvW d o q p:=by
 have s:Bk (d.setCell b e) b 3 #[e]:=v.set 0 e;have k:∀a,a≠b->(d.setCell b e).heap[a]?=d.heap[a]?:=fun a x=>heap_setCell_other d ⟨b,0,none⟩ a e x;have z:Vis l (d.setCell b e):=by refine ⟨g.os,g.tape,g.output,by simpa [World.setCell] using g.size,fun a w _=>?_⟩;by_cases c:a=b;subst c;exact .inl (s.trans u.symm);rcases g.block a w c with f |⟨j,n,f,m⟩|⟨j,n,f,m⟩;exact .inl ((k a c).trans f);exact .inr (.inl ⟨j,n,f,(k a c).trans m⟩);exact .inr (.inr ⟨j,n,f,(k a c).trans m⟩)
 refine (t.vis z).sameT fun a B j y r=>?_;have c:a≠b:=fun c=>by subst c;exact y (aK r s).1
 exact (k a c).symm.trans r
def LiveAt.lvw {e:World} {a c gk k j:Nat} {o p q:Value} {f l m:Nat} {b:List Nat} {g:List (Nat×Nat)} {n:List Bool} (d:LiveAt e a c gk k j o p q f l m b g n):LvW e a c b:=⟨gk,_,_,_,d.blk,d.walk⟩
def bL (d f:Nat) (b:List Nat) (a:Nat) (c:World) (k:LvW c d f b) (m:b.length=a+1) (p:a<=1000000):
 Calls prog 35 #[f] c fun e j=>e=.returned (.int .i64 (a:Int))/\c=j:=by
 obtain ⟨gk,q,r,s,g,l⟩:=k;have n:=g.cell 0;have o:IntKind.i64.wrap (((a+1:Nat):Int) - 1)=(a:Int):=by rw [IntKind.wrap_i64];omega
 clear g;go_enter func35,ntmps35;go_wp2_with fail;refine (jR d gk b _ l).mono ?_;rintro e j ⟨rfl,rfl⟩;rw [m];go_wp2_with fail;go_ret;exact ⟨eR oM,rfl⟩
def aFe (a:List Nat) (b:Nat) {c d:Nat} (e:c<=d):bZ a b c<=bZ a b d:=by
 unfold bZ;have:=(List.take_sublist_take_left (l:=a) e).count_le b;omega
def tN (b:List Nat) (a e:Nat):bZ b a e<=b.length:=by
 unfold bZ;have k:=(List.take_sublist e b).count_le a;have l:b.countP (fun c=>decide (c < a))+b.count a<=b.length:=by
  induction b with
  | nil=>simp
  | cons c j g=>
    have:=g ((List.take_sublist e j).count_le a);rw [zBn,List.count_cons];by_cases d:c < a;have:¬c=a:=oM;simp [d,this];omega;by_cases f:c=a;simp [d,f];omega;simp [d,f];omega
 omega
end
section
open Go.RowKit
noncomputable def ltP (a:List Nat) (b c:Nat):Bool:=@decide (sufLt a c b) (Classical.propDecidable _)
def pR (a:List Nat) (b c:Nat):ltP a b c=true↔sufLt a c b:=by
 unfold ltP;exact @decide_eq_true_iff _ (Classical.propDecidable _)
def zA {b a:List Nat} (g:IsSuf b a) (i:Nat) (k:i < a.length):a.countP (ltP b a[i])=i:=by
 have n:(a.take i).countP (ltP b a[i])=i:=by rw [List.countP_eq_length.2 fun m f=>?_];rw [zAj];omega;obtain ⟨d,e,rfl⟩:=zBo.1 f;rw [zAj] at e;rw [List.getElem_take,pR];exact zAr.1 g.sorted d i oM k oM
 have o:(a.drop i).countP (ltP b a[i])=0:=List.countP_eq_zero.2 fun m f c=>by obtain ⟨d,e,rfl⟩:=zBo.1 f;rw [zAw] at e;rw [List.getElem_drop,pR] at c;rcases zBa d with j | j;subst j;exact sufLt.asymm c c;exact sufLt.asymm c (zAr.1 g.sorted i (i+d) k oM oM)
 have l:a.countP (ltP b a[i])=(a.take i++a.drop i).countP (ltP b a[i]):=congrArg (List.countP _) (zAu i a).symm;rw [l,List.countP_append];omega
def aBf {a d:List Nat} (e:IsSuf a d) (b:Nat->Bool) (k:∀g j,sufLt a g j->b j=true->b g=true) (f:Nat):((aF a d).take (d.countP b)).count f=(List.range a.length).countP (fun c=>decide (bF a c=f)&&b c):=by
 rw [aF,<-List.map_take,rK e.sorted k,<-e.count,List.count_eq_countP,List.countP_map,List.countP_filter];refine List.countP_congr fun c _=>?_;simp [Function.comp,and_comm]
def lf {a e:List Nat} {g:Nat} (f:IsSuf a e) (o:EndOk a g) {i m b:Nat} (q:i < e.length) (y:m < e.length) (x:e[i]=b+1) (z:e[m]=b):bZ (aF a e) (a.getD b 0) i=m:=by
 have j:=o.len;have A:b < g:=by have:=f.lt (zBj q);omega
 have B:=o.pos b A;obtain ⟨d,r⟩:=eqx (a.getD b 0);rw [r] at B⊢;have p:=zA f i q;have n:=zA f m y;rw [x] at p;rw [z] at n;have s:=aBf f (ltP a (b+1)) (fun c F C u=>by rw [pR] at u⊢;exact C.trans u) d;rw [p] at s;rw [f.count] at n;unfold bZ;rw [s];have v:(aF a e).countP (fun c=>decide (c < d))=(List.range (g+1)).countP (fun b=>decide (a.getD b 0 < d)):=by
  rw [aF,List.countP_map,f.count,j];refine fN _ _ ?_ fun b D=>?_
  · show decide (bF a 0 < d)=_;rw [bI oM,j,zBb]
  · show decide (bF a (b+1) < d)=_;rw [aV oM]
 have w:(List.range a.length).countP (fun c=>decide (bF a c=d)&&ltP a (b+1) c)=(List.range (g+1)).countP (fun c=>decide (a.getD c 0=d)&&ltP a (b+1) (c+1)):=by
  rw [j];refine fN _ _ ?_ fun c t=>?_;show (decide (bF a 0=d)&&_)=(decide (a.getD g 0=d)&&_);rw [bI oM,j,zBb,o.last];have:decide (0=d)=false:=(by simp;omega);rw [this];rfl
  · show (decide (bF a (c+1)=d)&&_)=_;rw [aV oM]
 rw [v,w,<-rZ,<-n,j];refine List.countP_congr fun c t=>?_;have E:c < g+1:=(by simpa using t);rw [pR,oC,eG (by omega:c < a.length),eG (by omega:b < a.length),r];simp only [Bool.or_eq_true,zBd,zCa,pR];constructor;rintro (k |⟨k,l⟩);exact .inl oM;exact .inr ⟨by omega,l⟩;rintro (k |⟨k,l⟩);exact .inl oM;exact .inr ⟨by omega,l⟩;intro c _;simp only [zBd,zCa];rintro ⟨k,l,_⟩;omega
def pX {a c:List Nat} {d:Nat} (e:EndOk a d) {i b:Nat} (f:i < c.length) (g:c[i]=b+1) (k:b < d):(aF a c)[i]'(by rw [bH];exact f)=a.getD b 0:=by
 have j:=e.len;unfold aF;rw [List.getElem_map,g,aV oM]
def IsSuf.row {d b:List Nat} (f:IsSuf d b) {p:Nat} (g:p < d.length):∃a,∃c:a < b.length,b[a]=p:=by
 obtain ⟨a,c,e⟩:=zBo.1 (f.mem g);exact ⟨a,c,e⟩
def aAD (a:List Nat) (b c:Nat) (e:b < a.length):(aJ a c (aW a[b] c))[eY a b a[b] c]?=some (fO a[b] c):=by
 unfold aJ eY;have d:a=a.take b++a[b]::a.drop (b+1):=by rw [<-zAx e,zAu]
 generalize f:a[b]=s at d⊢;generalize a.take b=A at d⊢;rw [d,List.filter_append,List.filter_cons,zBx (by simp),zAz,List.countP_eq_length_filter,zAo (by simp)];simp
def aHN (e gk d:Nat) (y z:Int) (n:Value) (c:List Bool) (b:Nat) (a:World) (q:TreeAt a e c) (k:Bk a gk 3 #[(b:Int)]) (l:Bk a d 4 #[n]) (p:b < c.length):
 Calls prog 200 #[.agg #[e,.int .i64 y,.int .i64 z],gk,d] a fun o A=>o=.returned (.tuple #[])/\
  ∃w1,VisK (fun g=>g=e) a w1/\Bk w1 d 4 #[n]/\A=w1.setCell d (.bool (c.getD b false)):=by
 have C:a.cell? gk=some (.int .i64 (b:Int)):=(k.cell 0).trans rfl;have F:=k.lt;have G:=l.lt;obtain ⟨B,j⟩:=eqx (c.getD b false);rw [j];obtain ⟨t,x,v,u⟩:=hqq4 j q l p;clear q k l j p;go_enter func200,ntmps200;go_wp2_with fail;refine (aCi e c b _ (x.out.below (bR.alloc nL _)) u.out).mono ?_;rintro o w1 ⟨rfl,r⟩;rw [t.out];have m:VisK (fun g=>g=e) a w1:=(VisK.of_below (bR.alloc nL _)).trans r;have f:=m.1.bk v.out dC dC;have D:w1.cell? d=some n:=(f.cell 0).trans rfl;have E:=f.frozen 0;obtain ⟨s,w⟩:=hqq2 m f;clear r m f;go_wp2_with fail;go_end0;exact ⟨rfl,w1,s.out,w.out,rfl⟩
def aFV (b e gk c:Nat) (S:Nat->Value) (A ad K j:Int) (af:Value) (u:List Bool) (s:Nat) (w0 d:World) (J:Bk d b 201 (wcells S A ad)) (W:TreeAt w0 e u) (X:Vis w0 d) (ax:w0.heap.size<=c) (Q:Bk d gk 3 #[(s:Int)]) (H:Bk d c 4 #[af]) (aB:s < u.length):
 Calls prog 199 #[b,.agg #[e,.int .i64 K,.int .i64 j],.func (.func 200) #[] #[gk,c]] d fun k Z=>k=.returned (.tuple #[])/\
  VisF (fun a=>a=c) d Z/\Keep (fun a=>a=b∨a=e∨a=c) d Z/\Bk Z c 4 #[.bool (u.getD s false)]:=by
 have a9:=W.vis X;obtain ⟨q,O⟩:=eqx (u.getD s false);rw [O];obtain ⟨an,aq,am⟩:=hqq3 O W X;clear O W X;obtain ⟨aF,U⟩:=eqx (Obj.cells #[e,.int .i64 K,.int .i64 j] 206);have a6:=(Below.refl d.heap.size d).alloc nL aF;have V:=Bk.new d 206 #[e,.int .i64 K,.int .i64 j];rw [U] at V;have aW:=Q.lt;have aX:=H.lt;have aY:=J.lt;have aE:=Bk.ne H J dC;obtain ⟨L,a1,a0,a3,o,a2,ao⟩:=hqq7 a9 H Q J a6 V U;clear a9 Q H J a6 V U;go_enter func199,ntmps199;go_wp2_with fail;rw [ao.out];refine (aHN e gk c K j af u s _ (L.out.below o.out) (a0.out.alloc _) (a1.out.alloc _) aB).mono ?_;rintro k t ⟨rfl,w1,r,a8,rfl⟩;rw [an.out];obtain ⟨n,ab⟩:=((Vis.of_below o.out).trans r.1).waveC a3.out;have z:=ab.far (p:=c) (fun g=>aE g.symm) (.bool q);have aC:=L.out.vis ((Vis.of_below o.out).trans r.1);have y:TreeAt (w1.setCell c (.bool q)) e u:=aq.out.vis (((am.out.trans (Vis.of_below o.out)).trans r.1).fresh (p:=c) ax _);obtain ⟨B,Y⟩:=y.visits;have v:=(r.1.bk a2.out dC dC).far (p:=c) (fun g=>absurd (show d.heap.size=c from g) oM) (.bool q);have I:=a8.set 0 (.bool q);have P:VisF (fun a=>a=c) d (w1.setCell c (.bool q)):=VisF.put (F:=fun a=>a=c) (VisF.of_vis ((Vis.of_below o.out).trans r.1)) (p:=c) (.inl rfl) _;have T:Keep (fun a=>a=b∨a=e∨a=c) d (w1.setCell c (.bool q)):=Keep.setCell (F:=fun a=>a=b∨a=e∨a=c) ((Keep.of_below o.out).trans (r.2.mono fun a _ k=>.inr (.inl k))) (p:=c) (.inl (.inr (.inr rfl))) _;obtain ⟨D,a5⟩:=eqx (w1.setCell c (.bool q));rw [a5] at z y Y v I P T⊢;have aG:D.cell? d.heap.size=some (.pointer (some e)):=(v.cell 0).trans rfl;obtain ⟨C,ap,al,aj,ak,ar,au⟩:=hqq7 z v I P T y Y;have aD:=y.lt;have aV:=v.lt;have az:=Bk.ne z v dC;have ay:=Bk.ne z I dC;have aA:e≠b:=by rintro rfl;obtain ⟨aU,ad,⟨_,_,E⟩|⟨_,_,_,_,_,G⟩⟩:=ar.out;exact absurd (aK E C.out).1 dC;exact absurd (aK G.tree C.out).1 dC
 clear z v I P T y Y a5 ab aC a8 r o L a1 a0 a3 a2 aG;go_wp2_with fail;refine wp_region_any kR ?_;refine bX [9,10,11,12,13,14,15,16,17,18] (fun a=>a=b) 10 [3,10] (fun t=>Bk t b 201 (wcells S A n)) (fun _ t=>Bk t b 201 (wcells S A (IntKind.i64.wrap (n+B)))) [is b,is b,is (.pointer (some ⟨b,10,none⟩)),is (.int .i64 n),is d.heap.size,is e,is (.int .i64 B),is (.int .i64 (IntKind.i64.wrap (n+B))),is b,is (.pointer (some ⟨b,10,none⟩)),dF] _ _ rfl kR kR (C.out) (fun t b1 g _ aw=>Bk.below g aw g.lt) (fun _ _ _ g s=>Bk.below g s g.lt) tA1 ?_ ?_
 · refine aR ?_;refine pH3 0 (.pointer (some b)) ?_;refine pV3 0 9 ?_;refine pV3 1 10 ?_;refine sC3 (fun _ l _ M _ _ _ m _ _ _ w=>?_) ?_
   · have x:=M rfl;have aN:_=_:=m 2 11 kR rfl;have aJ:l.cell? ⟨b,10,none⟩=some (.int .i64 n):=(x.cell 10).trans (aZ _ _ _).2.2.2.2.2.2.2.2.2.2;go_simp;exact kq w rfl
   refine pH3 4 (.pointer (some d.heap.size)) ?_;refine pL3 4 13 (fun l f=>have f:Keep (fun a=>a=b) D l:=kD f;(((f.bk ap.out (fun g=>az (show d.heap.size=b from g).symm)).cell 0).trans rfl:l.cell? d.heap.size=some (.pointer (some e)))) ?_;refine sC3 (fun _ l f _ _ _ _ m _ _ _ w=>?_) ?_
   · replace f:Keep (fun a=>a=b) D l:=kD f;have aO:_=_:=m 5 14 kR rfl;go_simp;refine (eW e B l ((f.cell aD aA).trans au.out)).mono ?_;rintro k b2 ⟨rfl,av⟩;exact w _ _ (aL av) rfl
   refine pW3 3 12 6 15 ?_;refine pV3 0 9 ?_;refine pV3 8 17 ?_;refine sC3 (fun _ l _ M _ _ _ m _ _ _ w=>?_) ?_
   · have x:=M rfl;have aQ:_=_:=m 9 18 kR rfl;have aP:_=_:=m 7 16 kR rfl;have aM:l.cell? ⟨b,10,none⟩=some (.int .i64 n):=(x.cell 10).trans (aZ _ _ _).2.2.2.2.2.2.2.2.2.2;have aT:=x.frozen 10;go_simp;refine w (.bool true) _ (bC (Keep.setCell (F:=fun a=>a=b) (Keep.refl _ _) (p:=⟨b,10,none⟩) (.inl rfl) _)) ?_;rw [<-cF S A n];exact x.set 10 _
   exact aH
 · intro aS ae f m a7;replace f:Keep (fun a=>a=b) D ae:=kD f;obtain ⟨b0,ac⟩:∃aI,(fun _ t=>Bk t b 201 (wcells S A (IntKind.i64.wrap (n+B)))) aI ae:=a7 10 dC;simp only [zqq];clear m a7;have aa:=Vis.of_wave f C.out ac;have a4:=VisF.trans aj.out (VisF.of_vis aa);have E:=ak.out.trans (f.mono fun a _ k=>.inl k);have G:=f.bk al.out (fun k=>ay (show c=b from k).symm);obtain ⟨ag,ah,ai⟩:=hqq3 a4 E G;clear aa a4 E G ac f;go_wp2_with fail;go_end0;exact ⟨rfl,ag.out,ah.out,ai.out⟩
def aCv (e f a:Nat) (b:Bool) (c:World) (l:a<=1000):
 Calls prog 203 #[.agg #[e,(f:Int),(a:Int)],.bool b] c fun d g=>d=.returned (.int .i64 ((2*a+(if b then 1 else 0):Nat):Int))/\Below c.heap.size c g:=by
 have j:IntKind.i64.wrap (2*(a:Int))=2*(a:Int):=by rw [IntKind.wrap_i64];omega
 have k:IntKind.i64.wrap (2*(a:Int)+1)=2*(a:Int)+1:=by rw [IntKind.wrap_i64];omega
 go_enter func203,ntmps203;cases b with
 | true=>
   go_wp2_with fail;go_ret;exact ⟨eR (by simp),bR.alloc nL _⟩
 | false=>
   go_wp2_with fail;go_ret;exact ⟨eR (by simp),bR.alloc nL _⟩
def dN (q k:Nat) (m:List Nat) (n l:Nat) (e:World) (j:WaveAt e q k m) (J:n < m.length) (X:m[n]=l) (T:∀y∈m,y < 257) (bT:m.length<=1000):
 Calls prog 131 #[k,(n:Int)] e fun D c5=>D=.returned (.tuple #[(l:Int),.int .i64 0])/\VB q e c5:=by
 have a0:l < 257:=by rw [<-X];exact T _ (zBj J)
 have aQ:=kK m n l (zCl J) T a0;have ba:=mU l a0;have bb:=mW l;have aT:∀a,(aJ m a (aW l a))[eY m n l a]?=some (fO l a):=fun a=>by have:=aAD m n a J;rw [X] at this;exact this
 obtain ⟨a9,S,bg,w,b0⟩:=j;have cI:=w.lt;have bL:q<=e.heap.size:=oM;have s:=(w.set 10 (.int .i64 0)).alloc (.cells #[(n:Int)] 3);rw [cF] at s;have ak:=VisK.alloc (VB.set_wave w a9 0) (.cells #[(n:Int)] 3);have A:=Bk.new (e.setCell ⟨k,10,none⟩ (.int .i64 0)) 3 #[(n:Int)];rw [show (e.setCell ⟨k,10,none⟩ (.int .i64 0)).heap.size=e.heap.size by simp [World.setCell]] at A;obtain ⟨H,ae⟩:=eqx m.length;rw [ae] at w s J bT;have bJ:=w.frozen 10;have c7:e.cell? ⟨k,10,none⟩=some (.int .i64 bg):=(w.cell 10).trans (aZ S H bg).2.2.2.2.2.2.2.2.2.2;obtain ⟨t,aa⟩:=eqx ((e.setCell ⟨k,10,none⟩ (.int .i64 0)).alloc (.cells #[(n:Int)] 3));rw [aa] at s ak A;obtain ⟨aD,aF,aG,aI,aK,aL,aM,aN,aO,aP,bE⟩:=aZ S (H:Int) 0;have ce:∀c,(t.drewN c).cell? k=some (S 0):=fun c=>(s.cell 0).trans aD;have cf:∀c,(t.drewN c).cell? ⟨k,1,none⟩=some (S 1):=fun c=>(s.cell 1).trans aF;have cg:∀c,(t.drewN c).cell? ⟨k,2,none⟩=some (S 2):=fun c=>(s.cell 2).trans aG;have ch:∀c,(t.drewN c).cell? ⟨k,3,none⟩=some (S 3):=fun c=>(s.cell 3).trans aI;have ci:∀c,(t.drewN c).cell? ⟨k,4,none⟩=some (S 4):=fun c=>(s.cell 4).trans aK;have cj:∀c,(t.drewN c).cell? ⟨k,5,none⟩=some (S 5):=fun c=>(s.cell 5).trans aL;have ck:∀c,(t.drewN c).cell? ⟨k,6,none⟩=some (S 6):=fun c=>(s.cell 6).trans aM;have cm:∀c,(t.drewN c).cell? ⟨k,7,none⟩=some (S 7):=fun c=>(s.cell 7).trans aN;have cn:∀c,(t.drewN c).cell? ⟨k,8,none⟩=some (S 8):=fun c=>(s.cell 8).trans aO;have aB:t.cell? ⟨k,9,none⟩=some (.int .i64 (H:Int)):=(s.cell 9).trans aP;have aC:t.cell? e.heap.size=some (.int .i64 (n:Int)):=(A.cell 0).trans rfl;have co:∀c,(t.drewN c).cell? ⟨k,9,none⟩=some (.int .i64 (H:Int)):=fun c=>aB;have cq:∀c,(t.drewN c).cell? e.heap.size=some (.int .i64 (n:Int)):=fun c=>aC;have bQ:decide ((n:Int) < 0)=false:=by simp
 have cH:¬H<=n:=oM;obtain ⟨br,cd,au,bq,bh,bx,bz,bj,c8⟩:=hqq9 ak s A b0 aQ ba bb aT T;obtain ⟨c9,bi,cc,aq,cb⟩:=hqq5 ae aa X w J;clear aD aF aG aI aK aL aM aN aO aP bE ak s A b0 aQ ba bb aT T ae aa w X J;go_enter func131,ntmps131;go_wp2_with fail;rw [bi.out];clear c7 bJ;go_quiet (fail);clear aB aC bQ;go_wp2_with fail;go_loopw [6,30] (fun y i wr=>∃a:Nat,a<=9/\i=.int .i64 a/\y=.int .i64 ((aW l a:Nat):Int)/\VB q e wr/\Bk wr e.heap.size 3 #[.int .i64 ((eY m n l a:Nat):Int)]/\e.heap.size < wr.heap.size) (fun _ i _=>9 -(intOf i).toNat)
 case atStart=>exact ⟨0,by omega,rfl,by rw [bx.out];rfl,br.out.below (below_drewN bR _),by rw [bh.out];exact au.out.drewN _,au.out.lt⟩
 case round=>
  obtain ⟨a,cJ,rfl,rfl,a1,A,cC⟩:=hrel;by_cases Y:a < 9
  · have bP:=ix9 S a Y;obtain ⟨v,P,aj⟩:=bq.out a Y;obtain ⟨ao,ad⟩:=eqx (2 ^ a);obtain ⟨b,E⟩:=eqx (aW l a);have aY:b < ao:=(by rw [<-ad,<-E];exact kU l a a0 oM);rw [ad] at P aj;obtain ⟨a8,cp,aR,cK,cB⟩:=World.ownsRow.form P oM;rw [aR] at bP P;obtain ⟨y,a3⟩:=eqx (eY m n l a);obtain ⟨a6,an⟩:=eqx (eY m n l (a+1));obtain ⟨r,O⟩:=eqx (fO l a);have am:=kL m n l a Y;have a4:=bj.out a;rw [E,a3,O,an] at am;rw [E,a3,O] at a4;have b9:y < (aJ m a b).length:=(zAc.1 a4).1;have b8:(aJ m a b).getD y false=r:=(by rw [zAb,a4];rfl);have af:=mV l a Y;rw [E,O] at af;rw [E];rw [a3] at A;have cL:(b:Int) < (ao:Int):=oM;have Z:=a1.1.own P dC dC;obtain ⟨bd,be,bf⟩:=fL v a ao b aY;have bA:wr.cell? ⟨a8,b*3,none⟩=_:=(World.ownsRow.cellAt Z (b*3) oM).trans bd;have bB:wr.cell? ⟨a8,b*3+1,none⟩=_:=(World.ownsRow.cellAt Z (b*3+1) oM).trans be;have bC:wr.cell? ⟨a8,b*3+2,none⟩=_:=(World.ownsRow.cellAt Z (b*3+2) oM).trans bf;obtain ⟨av,bv,aA,bu,bn,Q,bm,ca,bw⟩:=hqq9 A am b9 b8 af (aj b aY) E O an;have a7:=lhd a1;clear P aj aR ad E a3 an O am a4 b9 b8 af a1 A Z bd be bf;go_wp2_with fail;obtain ⟨L,M⟩:=eqx ((wr.alloc (.cells #[.pointer (some ⟨v b,0,none⟩),(a:Int),(b:Int)] 206)).alloc (.cells #[.bool false] 4));have I:Below wr.heap.size wr L:=(by rw [<-M];exact (bR.alloc nL _).alloc (by simp) _);have b1:Bk L wr.heap.size 206 #[.pointer (some ⟨v b,0,none⟩),(a:Int),(b:Int)]:=(by rw [<-M];exact (Bk.new wr _ _).alloc _);have aU:Bk L (wr.heap.size+1) 4 #[.bool false]:=(by rw [<-M];have j:=Bk.new (wr.alloc (.cells #[.pointer (some ⟨v b,0,none⟩),(a:Int),(b:Int)] 206)) 4 #[.bool false];rw [World.size_alloc] at j;exact j);rw [M];have b3:VB q e L:=a7.out.below I;obtain ⟨c2,b7⟩:=b3.1.waveC aq.out;have b2:=Q.out.2.vis a7.out.1;have ab:=av.out.below I av.out.lt;refine (aFV k (v b) e.heap.size (wr.heap.size+1) S H c2 a b _ (aJ m a b) y wr L b7 b2 (Vis.of_below I) oM ab aU aA.out).mono ?_;rintro D C ⟨rfl,V,aX,U⟩;rw [bu.out] at U;have ac:=V.bk ab dC dC (fun j=>absurd (show e.heap.size=wr.heap.size+1 from j) oM);have ai:=V.bk b1 dC dC (fun j=>absurd (show wr.heap.size=wr.heap.size+1 from j) oM)
    have b4:VB q wr C:=⟨VisF.to_vis (VisF.trans (VisF.of_vis (Vis.of_below I)) V) (fun r w D=>by have:r=wr.heap.size+1:=D;omega),(Keep.of_below I).trans (aX.mono fun r _ D=>by
        rcases D with rfl | rfl | rfl;exact a9;exact Q.out.1
        · omega)⟩
    have b6:=a7.out.trans b4;obtain ⟨aw,ay,ar,az⟩:=hqq4 ac ai U b6;have cE:=ac.lt;have cN:=ai.lt;have cA:=U.lt;obtain ⟨ap,ah⟩:=eqx (aW l (a+1));have ag:=bn.out;rw [ah] at ag;obtain ⟨bp,bo⟩:=hqq2 ah ag;have bU:b<=1000:=(by have bK:=kU l a a0 oM;have cz:2 ^ a<=2 ^ 9:=zBp dC oM;rw [bm.out] at bK;omega);clear M I b1 aU b3 b7 b2 ab V aX U ac ai b4 b6 ah ag bA bB bC;go_wp2_with fail;refine wp_region_any kR ?_;refine bN q 8 [41,42,43,44,45,46,47,48] (fun _=>False) 7 [] (fun _=>True) (is (ap:Int)) [is k,is (.agg #[.pointer (some ⟨v b,0,none⟩),(a:Int),(b:Int)]),is (y:Int),is (.bool r),is (a6:Int),is (.agg #[.pointer (some ⟨v b,0,none⟩),(a:Int),(b:Int)]),is (.bool r),dF] _ _ rfl dC kR kR kR (trivial) (fun _ _ _ _ _=>trivial) (gP _ _) tA0 ?_ ?_
    · refine bO ?_;refine pH3 0 (.pointer (some k)) ?_;refine sC3 (fun u g d _ _ _ B _ _ _ _ o=>?_) ?_
      · replace d:VFB q (fun _=>False) C g:=fD d;have bI:u (.tmp 9)=.pointer (some ⟨wr.heap.size,0,none⟩):=B 9 kR;have G:=d.1.bk ay.out dC dC (fun j=>j);have bZ:g.cell? ⟨wr.heap.size,0,none⟩=some (.pointer (some ⟨v b,0,none⟩)):=(G.cell 0).trans rfl;have c0:g.cell? ⟨wr.heap.size,1,none⟩=some (.int .i64 (a:Int)):=(G.cell 1).trans rfl;have c1:g.cell? ⟨wr.heap.size,2,none⟩=some (.int .i64 (b:Int)):=(G.cell 2).trans rfl;go_simp;exact o _ _ (aE vR) rfl
      refine sC3 (fun u g d _ _ _ B _ _ _ _ o=>?_) ?_
      · replace d:VFB q (fun _=>False) C g:=fD d;have cr:u (.tmp 3)=.pointer (some e.heap.size):=B 3 kR;have cO:g.cell? e.heap.size=some (.int .i64 (y:Int)):=((d.1.bk aw.out dC dC (fun j=>j)).cell 0).trans rfl;go_simp;exact o _ _ (aE vR) rfl
      refine sC3 (fun u g d _ _ _ B _ _ _ _ o=>?_) ?_
      · replace d:VFB q (fun _=>False) C g:=fD d;have bF:u (.tmp 10)=.pointer (some ⟨wr.heap.size+1,0,none⟩):=B 10 kR;have bD:g.cell? ⟨wr.heap.size+1,0,none⟩=some (.bool r):=((d.1.bk ar.out dC dC (fun j=>j)).cell 0).trans rfl;go_simp;exact o _ _ (aE vR) rfl
      refine sC3 (fun _ g d _ _ _ _ x _ _ _ o=>?_) ?_
      · replace d:VFB q (fun _=>False) C g:=fD d;have cs:_=_:=x 0 41 kR rfl;have ct:_=_:=x 1 42 kR rfl;have cu:_=_:=x 2 43 kR rfl;have cv:_=_:=x 3 44 kR rfl;go_simp;have K:=VFB.to_vb d (fun r _ j=>j);have b5:=az.out.trans K;obtain ⟨c3,bW⟩:=b5.1.waveC aq.out;have bV:=Q.out.2.vis b5.1;refine (lI k (v b) S H c3 a b (aJ m a b) y r g bW bV (zCl aA.out)).mono ?_;rintro D c6 ⟨rfl,a2⟩;rw [bv.out];exact o _ _ (aE (a2.mono fun r w=>by rcases w with rfl | rfl;exact a9;exact Q.out.1)) rfl
      refine sC3 (fun u g d _ _ _ B _ _ _ _ o=>?_) ?_
      · replace d:VFB q (fun _=>False) C g:=fD d;have bI:u (.tmp 9)=.pointer (some ⟨wr.heap.size,0,none⟩):=B 9 kR;have G:=d.1.bk ay.out dC dC (fun j=>j);have bZ:g.cell? ⟨wr.heap.size,0,none⟩=some (.pointer (some ⟨v b,0,none⟩)):=(G.cell 0).trans rfl;have c0:g.cell? ⟨wr.heap.size,1,none⟩=some (.int .i64 (a:Int)):=(G.cell 1).trans rfl;have c1:g.cell? ⟨wr.heap.size,2,none⟩=some (.int .i64 (b:Int)):=(G.cell 2).trans rfl;go_simp;exact o _ _ (aE vR) rfl
      refine sC3 (fun u g d _ _ _ B _ _ _ _ o=>?_) ?_
      · replace d:VFB q (fun _=>False) C g:=fD d;have bF:u (.tmp 10)=.pointer (some ⟨wr.heap.size+1,0,none⟩):=B 10 kR;have bD:g.cell? ⟨wr.heap.size+1,0,none⟩=some (.bool r):=((d.1.bk ar.out dC dC (fun j=>j)).cell 0).trans rfl;go_simp;exact o _ _ (aE vR) rfl
      refine sC3 (fun _ g _ _ _ _ _ x _ _ _ o=>?_) ?_
      · have cw:_=_:=x 5 46 kR rfl;have cx:_=_:=x 6 47 kR rfl;go_simp;refine (aCv (v b) a b r g bU).mono ?_;rintro D c6 ⟨rfl,bM⟩;rw [<-bo.out];exact o _ _ (aE (VisK.of_below bM)) rfl
      exact aH
    · intro u a5 z d x aS;replace d:VFB q (fun _=>False) C a5:=fD d;have bG:u (.tmp 45)=.int .i64 (a6:Int):=x 4 45 dC rfl;have bH:u (.tmp 48)=.int .i64 (ap:Int):=x 7 48 dC rfl;obtain ⟨c4,bc⟩:=aS 7 dC;have bX:(is (ap:Int)) c4 a5:=bc;clear bc aS;simp only [zqq];rw [bG];rw [bH];clear x;have K:=VFB.to_vb d (fun r _ j=>j);have W:=K.1.bk aw.out dC dC;have cl:=W.cell 0;have cy:=W.frozen 0;have cM:=K.1.size;obtain ⟨bt,bl⟩:=hqq2 K W;clear K W d bX;change wpAny prog Region.Mode.any _ _ (2+z) (bY 8 10) _ a5;rw [show 2+z=z+1+1 by omega];refine bS (f:=z+1) (i:=8) kR ?_;refine cG rfl rfl ?_;generalize o:wpAny prog _ _ _ (z+1) _=K5;go_simp;subst o;refine bS (f:=z) (i:=9) kR ?_;refine cG rfl rfl ?_;generalize o:wpAny prog _ _ _ z _=K5;go_simp;subst o;refine cD kR ?_;have aV:=bl.out.set 0 (.int .i64 (a6:Int));have al:=az.out.trans bt.out;have a2:VB q e (a5.setCell e.heap.size (.int .i64 (a6:Int))):=⟨Vis.fresh al.1 (p:=e.heap.size) nL _,Keep.setCell (F:=fun r=>q<=r) al.2 (p:=e.heap.size) (.inl bL) _⟩;obtain ⟨bs,ax⟩:=hqq2 a2 aV;clear al a2 aV;go_wp2_with fail;go_roundw
      case rel=>exact ⟨a+1,by omega,by go_num,by rw [bp.out],bs.out,by rw [bw.out];exact ax.out,ax.out.lt⟩
      case measure=>simp [intOf];omega
  · obtain rfl:a=9:=oM;rw [bz.out];go_wp2_with fail;go_ret2;exact ⟨rfl,a1⟩
end
section
def inR (a b:Nat):Nat:=if b<=a then a+1 else a
def aS (a b:Nat):Nat:=if b < a then a - 1 else a
abbrev ro (R:List Nat) (a:Nat):Nat:=R.idxOf a
def bT {R:List Nat} {a:Nat} (b:a∈R):R[ro R a]?=some a:=zAc.2 ⟨List.idxOf_lt_length_iff.2 b,List.getElem_idxOf _⟩
def fB {R:List Nat} (e:R.Nodup) {a b:Nat} (d:R[a]?=some b):ro R b=a:=by
 obtain ⟨f,c⟩:=zAc.1 d;subst c;exact e.idxOf_getElem a f
def eE {R:List Nat} {b c:Nat} (e:b∈R) (f:c∈R) (d:ro R b=ro R c):b=c:=by
 have a:=bT e;rw [d,bT f] at a;injection a with a;exact a.symm
def tK {R:List Nat} (n:R.Nodup) {a t d:Nat} (g:R[a]?=some d) (u:t < R.length):
 (aM (aD R a) t d).Perm R/\ro (aM (aD R a) t d) d=t/\∀c∈R,c≠d->ro (aM (aD R a) t d) c=inR (aS (ro R c) a) t:=by
 have f:=(zAc.1 g).1;have q:=cQ R f;have l:(aM (aD R a) t d).Perm R:=(eM _ _ _).trans (dY g);have k:(aM (aD R a) t d).Nodup:=l.nodup_iff.2 n;refine ⟨l,?_,fun c o p=>?_⟩
 · refine fB k ?_;rw [iB _ _ oM,zBw oM,zBx rfl]
 · have b:=bT o;have s:ro R c≠a:=fun m=>by rw [m,g] at b;injection b with b;exact p b.symm
   refine fB k ?_;have r:=(zAc.1 b).1;rw [iB _ _ oM];unfold inR aS;by_cases j:a < ro R c;rw [zBx j];by_cases e:t<=ro R c - 1;rw [zBx e,zBw oM,zBw oM,dM _ f,zBw oM];rw [<-b];congr 1;omega;rw [zBw e,zBx oM,dM _ f,zBw oM,<-b];congr 1;omega
   · rw [zBw j];by_cases e:t<=ro R c
     · rw [zBx e,zBw oM,zBw oM,dM _ f,zBx oM,<-b];congr 1
     · rw [zBw e,zBx oM,dM _ f,zBx oM,<-b]
def rU (S R:List Nat) (a b:Nat):Prop:=S.getD a 0 < S.getD b 0∨(S.getD a 0=S.getD b 0/\ro R (a+1) < ro R (b+1))
structure Near (S R:List Nat) (N i:Nat):Prop where
 endk:EndOk S N
 perm:R.Perm (List.range (N+1))
 first:∀p q,p<=N->q<=N->ro R p < ro R q->S.getD p 0<=S.getD q 0
 cons:∀p q,p<=N->q<=N->p≠q->p+1≠i->q+1≠i->(ro R p < ro R q↔rU S R p q)
section
variable {S R : List Nat} {N i : Nat}
def Near.nodup (a:Near S R N i):R.Nodup:=a.perm.nodup_iff.2 List.nodup_range
def Near.mem (b:Near S R N i) {a:Nat}:a∈R↔a<=N:=by
 rw [b.perm.mem_iff,zCi];omega
def Near.len (a:Near S R N i):R.length=N+1:=by simpa using a.perm.length_eq
def aBM {S:List Nat} {a b:Nat} (k:a < S.length) (l:b < S.length) (j:S.getD a 0=S.getD b 0) (e:sufLt S (a+1) (b+1)):sufLt S a b:=by
 obtain ⟨m,d,n,f,g⟩:=e;refine ⟨m+1,d+1,by omega,fun c o=>?_,?_⟩
 · cases c with
   | zero=>
     rw [zBq,zBq,eG k,eG l,j]
   | succ c=>
     have:=f c oM;rw [show a+(c+1)=a+1+c by omega,show b+(c+1)=b+1+c by omega];exact this
 rw [show a+(d+1)=a+1+d by omega,show b+(d+1)=b+1+d by omega];exact g
def aEi {S:List Nat} {a b:Nat} (c:a < S.length) (d:b < S.length) (e:S.getD a 0 < S.getD b 0):sufLt S a b:=by
 refine ⟨1,0,by omega,fun g f=>by omega,?_⟩;rw [zBq,zBq,eG c,eG d];omega
def Near.sorted (c:Near S R N 0):IsSuf S R:=by
 obtain ⟨r,C,k⟩:=c.endk;have B:∀e a b,N < a+e->a<=N->b<=N->a≠b->ro R a < ro R b->sufLt S a b:=by
  intro e
  induction e with
  | zero=>intro a b u o;omega
  | succ e A=>
    intro a b u o z y v;rcases (c.cons a b o z y oM oM).1 v with j |⟨j,s⟩;exact aEi oM oM j
    · have D:a≠N:=fun d=>by subst d;have:=k b oM;omega
      have E:b≠N:=fun d=>by subst d;have:=k a oM;omega
      exact aBM oM oM j (A (a+1) (b+1) oM oM oM oM s)
 refine ⟨by rw [r];exact c.perm,?_⟩;rw [zAr];intro f g l m t;have n:=c.nodup;have w:R[f]<=N:=c.mem.1 (zBj l);have x:R[g]<=N:=c.mem.1 (zBj m);have p:ro R R[f]=f:=fB n (zAa l);have q:ro R R[g]=g:=fB n (zAa m);exact B (N+1) _ _ oM w x (fun d=>by rw [d,q] at p;omega) (by rw [p,q];exact t)
def IsSuf.near (p:IsSuf S R) (y:EndOk S N):Near S R N 0:=by
 obtain ⟨t,w,m⟩:=y;have B:R.Perm (List.range (N+1)):=by rw [<-t];exact p.perm
 have G:=p.nodup;have n:∀a,a<=N->a∈R:=fun a c=>p.mem oM;have q:∀a b,a<=N->b<=N->ro R a < ro R b->sufLt S a b:=fun a b c e j=>by have C:=(zAc.1 (bT (n a c)));have E:=(zAc.1 (bT (n b e)));obtain ⟨d,f⟩:=C;obtain ⟨l,x⟩:=E;have:=zAr.1 p.sorted _ _ d l j;rwa [f,x] at this
 have s:∀a b,a<=N->b<=N->sufLt S a b->ro R a < ro R b:=fun a b c e j=>by rcases Nat.lt_trichotomy (ro R a) (ro R b) with d | d | d;exact d;have:=eE (n a c) (n b e) d;subst this;exact (j.asymm j).elim;exact (j.asymm (q b a e c d)).elim
 have u:∀a b,a<=N->b<=N->sufLt S a b->S.getD a 0<=S.getD b 0:=fun a b c e ⟨F,g,d,f,l⟩=>by
  cases g with
  | zero=>
    rw [zBq,zBq,eG oM,eG oM] at l;omega
  | succ g=>
    have:=f 0 oM;rw [zBq,zBq,eG oM,eG oM] at this;omega
 have v:∀a b,a<=N->b<=N->a≠b->S.getD a 0=S.getD b 0->(sufLt S a b↔sufLt S (a+1) (b+1)):=fun a b c e r z=>by
  constructor
  · rintro ⟨F,g,d,f,l⟩;cases g with
    | zero=>
      rw [zBq,zBq,eG oM,eG oM] at l;omega
    | succ g=>
      refine ⟨g+1,g,by omega,fun o n=>?_,?_⟩;have:=f (o+1) oM;rw [show a+1+o=a+(o+1) by omega,show b+1+o=b+(o+1) by omega];exact this;rw [show a+1+g=a+(g+1) by omega,show b+1+g=b+(g+1) by omega];exact l
  exact aBM oM oM z
 refine ⟨⟨t,w,m⟩,B,fun a b c e j=>u a b c e (q a b c e j),fun a b c e r _ _=>?_⟩;unfold rU;constructor
 · intro j;have d:=q a b c e j;rcases Nat.lt_or_eq_of_le (u a b c e d) with f | f;exact .inl f
   · refine .inr ⟨f,?_⟩;have A:a≠N:=fun k=>by subst k;have:=m b oM;omega
     have D:b≠N:=fun k=>by subst k;have:=m a oM;omega
     exact s _ _ oM oM ((v a b c e r f).1 d)
 · rintro (d |⟨d,f⟩);exact s a b c e (aEi oM oM d)
   · have A:a≠N:=fun k=>by subst k;have:=m b oM;omega
     have D:b≠N:=fun k=>by subst k;have:=m a oM;omega
     exact s a b c e ((v a b c e r d).2 (q _ _ oM oM f))
def aAo (S R:List Nat) (N b c:Nat):Nat:=(List.range (N+1)).countP fun a=>decide (S.getD a 0 < b∨(S.getD a 0=b/\ro R (a+1) < c))
def yN {R:List Nat} (j:R.Nodup) (b:Nat) (c:Nat->Bool):(R.take b).countP c=R.countP fun a=>c a&&decide (ro R a < b):=by
 have k:R.countP (fun a=>c a&&decide (ro R a < b))=(R.take b).countP (fun a=>c a&&decide (ro R a < b))+(R.drop b).countP (fun a=>c a&&decide (ro R a < b)):=by rw [<-List.countP_append,zAu]
 have l:(R.drop b).countP (fun a=>c a&&decide (ro R a < b))=0:=by rw [List.countP_eq_zero];intro a e;obtain ⟨f,g,d⟩:=zBo.1 e;rw [List.getElem_drop] at d;have:ro R a=b+f:=fB j (by rw [<-d];exact zAa _);simp;omega
 have m:(R.take b).countP (fun a=>c a&&decide (ro R a < b))=(R.take b).countP c:=by refine List.countP_congr fun a e=>?_;obtain ⟨f,g,d⟩:=zBo.1 e;rw [zAj] at g;rw [List.getElem_take] at d;have:ro R a=f:=fB j (by rw [<-d];exact zAa _);have n:ro R a < b:=oM;simp [n]
 rw [k,l,m];rfl
def aAy {b:List Nat} {c d:Nat->Bool} (e:∀a∈b,¬(c a=true/\d a=true)):b.countP c+b.countP d=b.countP fun a=>c a||d a:=by
 induction b with
 | nil=>rfl
 | cons a b g=>
   have m:=e a (by simp);rw [zBn,zBn,zBn,<-g fun j f=>e j (by simp [f])];cases k:c a <;> cases l:d a <;> simp_all <;> omega
def pQ (n:EndOk S N) (c:R.Perm (List.range (N+1))) {a:Nat} (r:0 < a) (d:Nat):bZ (aF S R) a d=aAo S R N a d:=by
 obtain ⟨e,f,q⟩:=n;have o:R.Nodup:=c.nodup_iff.2 List.nodup_range;unfold bZ aAo;have g:(aF S R).countP (fun p=>decide (p < a))=(List.range (N+1)).countP fun b=>decide (S.getD b 0 < a):=by
  unfold aF;rw [List.countP_map,c.countP_eq];refine fN _ _ ?_ fun b c=>?_;simp only [Function.comp];rw [bI oM,e];rfl
  · simp only [Function.comp];rw [aV oM]
 have j:((aF S R).take d).count a=(List.range (N+1)).countP fun b=>decide (S.getD b 0=a)&&decide (ro R (b+1) < d):=by
  unfold aF;rw [<-List.map_take,List.count_eq_countP,List.countP_map,yN o,c.countP_eq];refine fN _ _ ?_ fun b c=>?_
  · simp only [Function.comp];rw [bI oM,e];have:(N+1 - 1)=N:=oM;rw [this,f];have m:¬(0:Nat)=a:=oM;simp [m]
  simp only [Function.comp];rw [aV oM];rfl
 rw [g,j,aAy]
 · refine List.countP_congr fun b _=>?_;simp
 intro b _ ⟨k,l⟩;simp at k l;omega
def aAe {K:Nat->Bool}:∀ {d:List Nat},d.Pairwise (fun a o=>K o=true->K a=true)->∀(c a:Nat),d[c]?=some a->(K a=true↔c < d.countP K)
 | [],_,c,a,b=>by simp at b
 | g::d,hO,c,a,b=>by
   obtain ⟨k,l⟩:=List.pairwise_cons.1 hO;cases e:K g with
   | true=>
     rw [List.countP_cons_of_pos e];cases c with
     | zero=>
       injection b with b;subst b;simp [e]
     | succ c=>
       rw [aAe l c a b];omega
   | false=>
     have j:(g::d).countP K=0:=by
        rw [List.countP_eq_zero];intro p f;rcases List.mem_cons.1 f with rfl | f
        · simp [e]
        · intro m;have:=k p f m;rw [e] at this;cases this
     rw [j];have n:a∈g::d:=zAd b;have:=(List.countP_eq_zero.1 j) a n;simp [this]
def KB (S R:List Nat) (i a:Nat):Bool:=decide (S.getD a 0 < S.getD i 0∨(S.getD a 0=S.getD i 0/\ro R (a+1) < ro R (i+1)))
def aIi (a:Near S R N (i+1)) (u:i<=N):∀b,b<=N->b≠i->(KB S R i b=true↔aS (ro R b) (ro R i) < aAo S R N (S.getD i 0) (ro R (i+1))):=by
 intro b z I;have m:=a.nodup;have s:=bT (a.mem.2 u);have t:=bT (a.mem.2 z);have v:=(zAc.1 s).1;have e:=dY s;have U:(aD R (ro R i)).Nodup:=(List.nodup_cons.1 (e.nodup_iff.2 m)).2;have V:ro R b≠ro R i:=fun c=>I (eE (a.mem.2 z) (a.mem.2 u) c);have D:(aD R (ro R i))[aS (ro R b) (ro R i)]?=some b:=by
  unfold aS;rw [dM _ v];by_cases r:ro R i < ro R b;rw [zBx r,zBw oM,<-t];congr 1;omega
  · rw [zBw r,zBx oM,<-t]
 have F:aAo S R N (S.getD i 0) (ro R (i+1))=(aD R (ro R i)).countP (KB S R i):=by
  unfold aAo;rw [<-a.perm.countP_eq,<-e.countP_eq,zBn];have B:decide (S.getD i 0 < S.getD i 0∨(S.getD i 0=S.getD i 0/\ro R (i+1) < ro R (i+1)))=false:=by rw [decide_eq_false_iff_not];omega
  rw [B];rfl
 rw [F];refine aAe ?_ _ _ D;rw [zAr];intro n o C E T p;have j:(aD R (ro R i))[n]?=some (aD R (ro R i))[n]:=zAa C;have k:(aD R (ro R i))[o]?=some (aD R (ro R i))[o]:=zAa E;obtain ⟨f,J⟩:=eqx ((aD R (ro R i))[n]);obtain ⟨g,O⟩:=eqx ((aD R (ro R i))[o]);rw [J] at j⊢;rw [O] at k p;have y:=(List.nodup_cons.1 (e.nodup_iff.2 m)).1;have w:=zAd j;have x:=zAd k;have W:f≠i:=fun c=>y (by rw [c] at w;exact w);have X:g≠i:=fun c=>y (by rw [c] at x;exact x);have L:f∈R:=e.subset (by simp [zAd j]);have Q:g∈R:=e.subset (by simp [zAd k]);have K:=a.mem.1 L;have P:=a.mem.1 Q;have A:∀ {d q:Nat},(aD R (ro R i))[d]?=some q->ro R q=if d < ro R i then d else d+1:=fun {d q} l=>by rw [dM _ v] at l;split at l;rw [zBx (by assumption)];exact fB m l;rw [zBw (by assumption)];exact fB m l
 have H:ro R f < ro R g:=by rw [A j,A k];split <;> split <;> omega
 have M:f≠g:=fun c=>by subst c;omega
 have G:=(a.cons f g K P M oM oM).1 H;unfold KB at p⊢;rw [zCa] at p⊢;unfold rU at G;omega
def tgt (S R:List Nat) (i:Nat):Nat:=bZ (aF S R) (S.getD i 0) (ro R (i+1))
def aGd (a:Near S R N (i+1)) (b:i < N):tgt S R i=aAo S R N (S.getD i 0) (ro R (i+1)):=pQ a.endk a.perm (a.endk.pos i b) _
def aGc (c:Near S R N (i+1)) (e:i < N):tgt S R i < N+1:=by
 rw [aGd c e];unfold aAo;have d:(List.range (N+1)).countP (fun a=>decide (S.getD a 0 < S.getD i 0∨(S.getD a 0=S.getD i 0/\ro R (a+1) < ro R (i+1))))≠(List.range (N+1)).length:=fun b=>by have:=(List.countP_eq_length.1 b) i (by simp;omega);rw [zCa] at this;omega
 have f:=zBh (p:=fun a=>decide (S.getD a 0 < S.getD i 0∨(S.getD a 0=S.getD i 0/\ro R (a+1) < ro R (i+1)))) (l:=List.range (N+1));rw [zCh] at d f;omega
def aEf (k:Near S R N (i+1)) (I:i < N) {g:List Nat} {n:Nat} (J:n=tgt S R i) (z:g.Perm R) (F:ro g i=n) (m:∀a∈R,a≠i->ro g a=inR (aS (ro R a) (ro R i)) n) (B:Nat) (U:B=i∨(ro R i=n/\B=0)):Near S g N B:=by
 have x:=aIi k oM;rw [<-aGd k I,<-J] at x;have l:∀a,a<=N->a∈R:=fun a d=>k.mem.2 d;have t:∀a,a<=N->a≠i->ro R a≠ro R i:=fun a d e j=>e (eE (l a d) (l i oM) j);have u:∀a b,a<=N->b<=N->a≠i->b≠i->(ro g a < ro g b↔ro R a < ro R b):=fun a b d f e c=>by rw [m a (l a d) e,m b (l b f) c];have Q:=t a d e;have T:=t b f c;unfold inR aS;split <;> split <;> split <;> split <;> omega
 have E:∀a,a<=N->a≠i->(ro g a < ro g i↔KB S R i a=true):=fun a d e=>by rw [x a d e,F,m a (l a d) e];unfold inR;split <;> omega
 have D:∀a,a<=N->a≠i->(ro g i < ro g a↔¬KB S R i a=true):=fun a d e=>by rw [x a d e,F,m a (l a d) e];unfold inR;split <;> omega
 have G:∀a,a < N->a≠i->(a+1≠i∨ro R i=n)->(ro R (a+1) < ro R (i+1)↔ro g (a+1) < ro g (i+1)):=fun a d e q=>by
  rcases q with q | q;exact (u (a+1) (i+1) oM oM q oM).symm
  · have r:∀b,b<=N->ro g b=ro R b:=fun b f=>by
        by_cases c:b=i;subst c;omega
        · rw [m b (l b f) c,q];have:=t b f c;unfold inR aS;split <;> split <;> omega
    rw [r _ oM,r _ oM]
 obtain ⟨O,P,C⟩:=k.endk;refine ⟨k.endk,z.trans k.perm,fun a b d f y=>?_,fun a b d f A X Y=>?_⟩;by_cases e:a=i;subst e;by_cases c:b=a;subst c;omega;have:=(D b f c).1 y;unfold KB at this;rw [zCa] at this;omega;by_cases c:b=i;subst c;have:=(E a d e).1 y;unfold KB at this;rw [zCa] at this;omega;exact k.first a b d f ((u a b d f e c).1 y)
 · have w:∀o p,o<=N->p<=N->o≠p->S.getD o 0=S.getD p 0->o < N/\p < N:=fun o p K L Z a0=>by refine ⟨Nat.lt_of_le_of_ne K fun j=>?_,Nat.lt_of_le_of_ne L fun j=>?_⟩;subst j;have:=C p oM;omega;subst j;have:=C o oM;omega
   by_cases e:a=i;subst e;have c:b≠a:=fun j=>A j.symm;rw [D b f c];unfold KB rU;rw [zCa];by_cases s:S.getD b 0=S.getD a 0;obtain ⟨v,H⟩:=w b a f d c s;have:=G b v c oM;have V:ro R (b+1)≠ro R (a+1):=fun j=>c (by have:=eE (l (b+1) oM) (l (a+1) oM) j;omega);have W:ro g (b+1)≠ro g (a+1):=fun j=>c (by have:=eE ((z.trans k.perm).mem_iff.2 (by simp;omega)) ((z.trans k.perm).mem_iff.2 (by simp;omega)) j;omega);omega;omega
   · by_cases c:b=i;subst c;rw [E a d e];unfold KB rU;rw [zCa];by_cases s:S.getD a 0=S.getD b 0;obtain ⟨v,H⟩:=w a b d f e s;have:=G a v e oM;omega;omega
     · rw [u a b d f e c,k.cons a b d f A oM oM];unfold rU;by_cases s:S.getD a 0=S.getD b 0
       · obtain ⟨v,H⟩:=w a b d f A s;by_cases M:ro R i=n
         · have r:∀b,b<=N->ro g b=ro R b:=fun b f=>by
            by_cases c:b=i;subst c;omega
            · rw [m b (l b f) c,M];have:=t b f c;unfold inR aS;split <;> split <;> omega
           rw [r _ oM,r _ oM]
         · rw [u (a+1) (b+1) oM oM oM oM]
       omega
end
end
end Go.Proofs.YtcfpmjbojoidoaaGreatDoor
