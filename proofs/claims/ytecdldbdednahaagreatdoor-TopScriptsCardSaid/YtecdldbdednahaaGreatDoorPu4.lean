/- Lemmas of the walk. Conditions: each its own. -/
import Derived.Test.YtecdldbdednahaaGreatDoorPu2
import Derived.Test.YtecdldbdednahaaGreatDoorPu3
import Derived.Test.YtecdldbdednahaaGreatDoorProg
import Derived.Test.YtecdldbdednahaaGreatDoorShl
set_option linter.all false
set_option maxRecDepth 100000
set_option maxHeartbeats 4000000
open Go.Proofs.Tryz
namespace Go.Proofs.YtecdldbdednahaaGreatDoor
section
open Go.RowKit
def ix9 (S:Nat->Value) (a:Nat) (b:a < 9) (w):(Instr.index 178 (.agg #[S 0,S 1,S 2,S 3,S 4,S 5,S 6,S 7,S 8]) (.int .i64 (a:Int))).run prog w=.ok (S a) w:=by
 rcases a with _ | _ | _ | _ | _ | _ | _ | _ | _ | a
 all_goals first |(exfalso;omega)| kernel_rfl
def iP (B c:Nat) (f) (g b:Nat) (w) (aG:WaveAt w B c f) (t:b < 257) (ai:g<=f.length) (H:∀o∈f,o < 257) (aJ:f.length<=1000):
 Calls prog 170 #[c,(g:Int),(b:Int)] w fun q w'=>q=.returned (.int .i64 (((f.take g).count b:Nat):Int))/\VB B w w':=by
 have ae:=mA f g b ai H t;have af:=aAL f g b;obtain ⟨ag,S,am,m,ak⟩:=aG;have u:=m.set 10 (.int .i64 0);rw [cR] at u;have W:=VB.set_wave m ag 0;obtain ⟨x,O⟩:=eqx f.length;rw [O] at m u ai aJ;have br:max (g:Int) 0=(g:Int):=oM;have bt:min (g:Int) (x:Int)=(g:Int):=oM;have aF:=m.frozen 10;have aW:w.cell? ⟨c,10,none⟩=some (.int .i64 am):=(m.cell 10).trans (bI S x am).2.2.2.2.2.2.2.2.2.2;have bn:=m.lt;obtain ⟨aZ,I⟩:=eqx (w.setCell ⟨c,10,none⟩ (.int .i64 0));rw [I] at u W;obtain ⟨C,a2,ax,ao,ap,aX,aY,aq⟩:=hqq8 u W ak ae af H O I;clear m ak u W ae af H O I;go_enter func170,ntmps170;go_wp2_with fail;rw [aq.out];refine (fO b _ t).mono ?_;rintro q w1 ⟨rfl,J⟩;have k:=C.out.below J C.out.lt;have al:=a2.out.below J;obtain ⟨a4,a5,a6,a7,a8,a9,aa,ab,ac,ad,aB⟩:=bI S (x:Int) 0;have b3:w1.cell? c=some (S 0):=(k.cell 0).trans a4;have b4:w1.cell? ⟨c,1,none⟩=some (S 1):=(k.cell 1).trans a5;have b5:w1.cell? ⟨c,2,none⟩=some (S 2):=(k.cell 2).trans a6;have b6:w1.cell? ⟨c,3,none⟩=some (S 3):=(k.cell 3).trans a7;have b7:w1.cell? ⟨c,4,none⟩=some (S 4):=(k.cell 4).trans a8;have b8:w1.cell? ⟨c,5,none⟩=some (S 5):=(k.cell 5).trans a9;have b9:w1.cell? ⟨c,6,none⟩=some (S 6):=(k.cell 6).trans aa;have ba:w1.cell? ⟨c,7,none⟩=some (S 7):=(k.cell 7).trans ab;have bb:w1.cell? ⟨c,8,none⟩=some (S 8):=(k.cell 8).trans ac;have bc:w1.cell? ⟨c,9,none⟩=some (.int .i64 (x:Int)):=(k.cell 9).trans ad;obtain ⟨au,D⟩:=hqq2 k al;clear a4 a5 a6 a7 a8 a9 aa ab ac ad aB k al J C a2 aW aF;go_wp2_with fail;go_loopw [1,28] (fun o i wr=>∃a:Nat,a<=9/\i=.int .i64 a/\o=.int .i64 ((gF f g b a:Nat):Int)/\VB B w1 wr) (fun _ i _=>9 -(intOf i).toNat)
 case atStart=>exact ⟨0,by omega,rfl,by rw [ao.out],VisK.refl _ _⟩
 case round=>
  obtain ⟨a,bo,rfl,rfl,V⟩:=hrel;by_cases z:a < 9
  · have aI:=ix9 S a z;obtain ⟨G,r,U⟩:=ax.out a z;obtain ⟨v,M⟩:=eqx (2 ^ a);obtain ⟨d,s⟩:=eqx (bG b a);have aj:d < v:=(by rw [<-M,<-s];exact mO b a t oM);rw [M] at r U;obtain ⟨p,a3,ah,bp,bm⟩:=kk r oM;rw [ah] at aI r;obtain ⟨o,A⟩:=eqx (gF f g b a);obtain ⟨a0,Z⟩:=eqx (gF f g b (a+1));obtain ⟨E,L⟩:=eqx (hQ b a);have Y:=mB f g b a z;have X:=aFZ f g b a;rw [s,A,L,Z] at Y;rw [s,A] at X;rw [A];have bq:(d:Int) < (v:Int):=oM;obtain ⟨az,ay,av,a1,aw,ar,aA,y⟩:=hqq8 Y X r (U d aj) s L Z V;clear r U ah M s A Z L Y X V;go_wp2_with fail;refine wp_region_any kR ?_;refine aO [32,33,34,35,36,37,38,39,40,41,42,43,1] (VB B) (Vs [is c,is (.slice (some p) v a3),is (b:Int),is (a:Int),is (d:Int),is (.pointer (some ⟨p,d*3,none⟩)),is (.agg #[.pointer (some ⟨G d,0,none⟩),(a:Int),(d:Int)]),is (o:Int),is (b:Int),is (a:Int),is (.bool E),is (a0:Int),is (a0:Int)]) _ _ rfl kR vR (fun _ _=>VisK.trans) (cS tA1) ?_ ?_
    · refine aK ?_;refine pH 0 (.pointer (some c)) ?_;refine pH 8 (.slice (some p) v a3) ?_;refine pH 2 (.int .i64 (b:Int)) ?_;refine pH 7 (.int .i64 (a:Int)) ?_;refine sC (fun _ l _ _ _ _ e _ _ _ n=>?_) ?_
      · have be:_=_:=e 2 34 kR rfl;have bf:_=_:=e 3 35 kR rfl;go_simp;refine (lK b a l t oM).mono ?_;rintro q an ⟨rfl,K⟩;rw [aw.out];exact n _ _ (kd K) rfl
      refine pW 1 33 4 36 ?_;refine sC (fun _ l j _ _ _ e _ _ _ n=>?_) ?_
      · have bg:_=_:=e 5 37 kR rfl;replace j:(VB B) wr l:=bD j;have T:=(D.out.trans (y.out.trans j)).1.own av.out dC dC;obtain ⟨aR,aS,aT⟩:=fV G a v d aj;have b0:l.cell? ⟨p,d*3,none⟩=_:=(ki T (d*3) oM).trans aR;have b1:l.cell? ⟨p,d*3+1,none⟩=_:=(ki T (d*3+1) oM).trans aS;have b2:l.cell? ⟨p,d*3+2,none⟩=_:=(ki T (d*3+2) oM).trans aT;go_simp;exact n _ _ vR rfl
      refine pH 1 (.int .i64 (o:Int)) ?_;refine pH 2 (.int .i64 (b:Int)) ?_;refine pH 7 (.int .i64 (a:Int)) ?_;refine sC (fun _ l _ _ _ _ e _ _ _ n=>?_) ?_
      · have bj:_=_:=e 8 40 kR rfl;have bk:_=_:=e 9 41 kR rfl;go_simp;refine (nB b a l t z).mono ?_;rintro q an ⟨rfl,K⟩;rw [ar.out];exact n _ _ (kd K) rfl
      refine sC (fun _ l j _ _ _ e _ _ _ n=>?_) ?_
      · have bd:_=_:=e 0 32 kR rfl;have bh:_=_:=e 6 38 kR rfl;have bi:_=_:=e 7 39 kR rfl;have bl:_=_:=e 10 42 kR rfl;replace j:(VB B) wr l:=bD j;go_simp;obtain ⟨aU,aQ⟩:=(y.out.trans j).1.waveC au.out;have aM:=a1.out.2.vis (D.out.trans (y.out.trans j)).1;refine (mZ c (G d) S x aU a d (aL f a d) o E l aQ aM ay.out).mono ?_;rintro q an ⟨rfl,aP⟩;rw [az.out];exact n _ _ (aP.mono fun E m=>by rcases m with rfl | rfl;exact ag;exact a1.out.1) rfl
      refine pV 11 43 ?_;exact aC
    · intro aE aV j e;replace j:(VB B) wr aV:=bD j;have aD:aE (.tmp 1)=.int .i64 (a0:Int):=e 12 1 rfl;simp only [zqq];rw [aD];clear e;have aN:=y.out.trans j;go_wp2_with fail;go_roundw
      case rel=>exact ⟨a+1,by omega,by go_num,by rw [aA.out],aN⟩
      case measure=>simp [intOf];omega
  · have aH:a=9:=oM;subst aH;rw [ap.out];go_wp2_with fail;go_ret;exact ⟨rfl,D.out.trans V⟩
def qE (b d f e g N a w) (c:Bk w b 168 #[.slice d N f,.slice e a g,(268435456:Int)]) (o:N<=1048576) (n:a<=N):
 Calls prog 146 #[b] w fun j w'=>j=.returned (.int .i64 ((N - a:Nat):Int))/\Below w.heap.size w w':=by
 have k:w.cell? b=some (.slice d N f):=(c.cell 0).trans rfl;have l:w.cell? ⟨b,1,none⟩=some (.slice e a g):=(c.cell 1).trans rfl;have m:IntKind.i64.wrap ((N:Int) -(a:Int))=((N - a:Nat):Int):=by rw [wI0];omega
 clear c;go_enter func146,ntmps146;go_wp2;go_quiet (fail);go_wp2;go_ret;exact ⟨fR oM,kn bR _⟩
def sT (B a c e n o N T w) (q:Bk w a 168 #[.slice c N e,.slice n 0 o,(268435456:Int)]) (x:w.ownsRow B 4 1 (.slice c N e) N (T.map Value.bool)) (am:B<=w.heap.size) (an:N<=1000000):
 Calls prog 86 #[a] w fun I w'=>I=.returned (.tuple #[(N:Int),o0])/\Keep (fun d=>d=a∨(Value.slice c N e).ownBlock=some d) w w'/\∃s,Bk w' a 168 #[s,.slice n 0 o,(268435456:Int)]/\w'.ownsRow B 4 1 s (N+1) ((T++ [true]).map Value.bool)/\(s.ownBlock=(Value.slice c N e).ownBlock∨∃J,s.ownBlock=some J/\w.heap.size<=J):=by
 obtain ⟨ae,a4,ab,ac,ad⟩:=info_parts pI;have ao:=q.lt;obtain ⟨j,X,W⟩:=hqq3 q x (bC x q dC);clear q x;go_enter func86,ntmps86;go_wp2;refine wp_region_any kR ?_;refine aO [10,11,12,13,14,15,16,9] (Grow) (Vs [is a,is (N:Int),is a,is a,is (.pointer (some ⟨a,2,none⟩)),is (.int .i64 268435456),is (.bool false),is (.bool false)]) _ _ rfl kR bR (fun _ _=>Grow.trans) (cS tA1) ?_ ?_
 · refine aK ?_;refine pH 0 (.pointer (some a)) ?_;refine sC (fun _ f b _ _ _ g _ _ _ u=>?_) ?_
   · have ai:_=_:=g 0 10 kR rfl;replace b:(Grow) w f:=gD b;go_simp;refine (qE a c e n o N 0 f (j.out.below b j.out.lt) oM oM).mono ?_;rintro I av ⟨rfl,a3⟩;exact u _ _ a3 rfl
   refine pH 0 (.pointer (some a)) ?_;refine pV 2 12 ?_;refine pV 3 13 ?_;refine pL 4 14 (fun f b=>have b:(Grow) w f:=gD b;(((j.out.below b j.out.lt).cell 2).trans rfl:f.cell? ⟨a,2,none⟩=some (.int .i64 268435456))) ?_;refine sC (fun _ _ _ _ _ _ g _ _ _ u=>?_) ?_
   · have aj:_=_:=g 1 11 kR rfl;have ak:_=_:=g 5 15 kR rfl;have ap:((N:Int)==268435456)=false:=(by simp;omega);go_simp;exact u _ _ bR (by first | rfl | simp [is] |(simp [is];omega))
   refine pV 6 16 ?_;exact aC
 · intro a1 m b g;replace b:(Grow) w m:=gD b;have a0:a1 (.tmp 9)=.bool false:=g 7 9 rfl;simp only [zqq];rw [a0];clear g;have l:=j.out.below b j.out.lt;have aa:=Below.size b;have O:=aQ X.out b;have Z:m.cell? ⟨a,1,none⟩=some (.slice n 0 o):=(l.cell 1).trans rfl;have E:m.cell? a=some (.slice c N e):=(l.cell 0).trans rfl;have a2:=l.frozen 0;have M:a < m.heap.size:=oM;obtain ⟨t,A,D⟩:=hqq3 b l O;clear b l O;generalize m=W2 at A aa E Z a2 t M D⊢;have af:=(World.cell?_alloc_lt W2 (Obj.cells #[true] 4) ⟨a,0,none⟩ M).trans E;go_wp2_with (at_builtin;refine bL _ rfl (.tmp 53) (.tmp 54) _ rfl B 4 ae (.bool false) 1 1 underlying112 a4 ab ac ad rfl dC (.slice c N e) N _ rfl D.out rfl rfl (by simp [Value.oneCell']) (by unfold maxLen;omega) oM oM ?_;intro au f y v aq K;have r:=A.out.grown v W.out;obtain ⟨Y,V,U,C⟩:=hqq4 y v K r;have ah:f.cell? a=some (.slice c N e):=(r.cell 0).trans rfl;have al:=r.frozen 0;obtain ⟨z,H,rfl,a8⟩:=aS y;clear y v K r a8);go_ret2;have a9:=ka (F:=fun d=>d=a∨(Value.slice c N e).ownBlock=some d) (kf _ f) (p:=a) (.inl (.inl rfl)) (.slice z (N+1) H);have a6:Keep (fun d=>d=a∨(Value.slice c N e).ownBlock=some d) w W2:=kF t.out;have a7:=a6.grown V.out (fun ar a5=>.inl (.inr a5));refine ⟨rfl,a7.trans' a9 (fun d _ k=>k),_,C.out.set 0 _,?_,?_⟩;have:=aA (w':=f.setCell a (.slice z (N+1) H)) Y.out fun d ag _ L=>L.far (Bk.ne L C.out dC) _;simpa using this;rcases U.out with k | k;exact .inl k;exact .inr ⟨_,k,by have:=t.out.size;omega⟩
def qC (B b a c l e f k w) (g:w.ownsRow B 3 1 (.slice b a c) a l) (j:Rd w w.heap.size 1 e 1 [sv k]) (p:B<=w.heap.size) (A:a<=1000000):
 Calls prog 87 #[.slice b a c,(a:Int),.slice e 1 f] w fun o w'=>∃d,o=.returned d/\w'.ownsRow B 3 1 d (a+1) (l++ [sv k])/\w.grownBy w' (Value.slice b a c).ownBlock/\(d.ownBlock=(Value.slice b a c).ownBlock∨d.ownBlock=some w.heap.size):=by
 obtain ⟨y,s,u,v,x⟩:=info_parts gN;have C:=iX (P:=prog) 39 3 1 underlying39 Tryz.sizeOf3 b a c a nL;obtain ⟨m,n⟩:=hqq2 g j;clear g j;go_enter func87,ntmps87;go_wp2_with (at_builtin;refine bF _ rfl (.tmp 23) (.tmp 24) _ rfl B 3 y (.int .i64 0) 1 8 underlying39 s u v x rfl dC (.slice b a c) a _ rfl m.out w.heap.size e 1 f _ rfl n.out (by simp [Value.oneCell',sv]) (by unfold maxLen;omega) oM p ?_;intro z D t r q);go_ret;exact ⟨z,rfl,t,r,q⟩
def tR:(prog.info? 114).map (fun i=>(i.zero,i.size,i.bytes))=some (some (.agg #[o0,o0]),2,16):=by kernel_rfl
def PF (c b:Nat) (d e f:Value) (a:Nat):Prop:=a=c∨a=b∨d.ownBlock=some a∨e.ownBlock=some a∨f.ownBlock=some a
def lC (a b):bU (a++ [b])=bU a++nK b:=by simp [bU]
def PermAt.below {w w' B f e l m n k R P g c j d} (a:PermAt w B f e l m n k R P g c j d) (b:Below w.heap.size w w'):PermAt w' B f e l m n k R P g c j d:=
 ⟨a.blk.below b a.blk.lt,aQ a.lrow b,aQ a.orow b,a.ar.below b a.ar.lt,aQ a.trow b,aQ a.frow b,a.apart,a.lt,a.lo⟩
def iB {F w w' B c f e g j} (l:w.ownsRow B c f g e j) (n:Keep F w w') (m:∀a b,F a->Bk w a c b->False):w'.ownsRow B c f g e j:=
 aA l fun a b _ d=>n.bk d (fun k=>m a b k d)
def aIy {w:World} {B g cap:Nat} {C:List (Nat×Nat)} {y:Nat×Nat} (l:w.ownsRow B 114 2 (.slice (some g) (C.length+1) cap) (C.length+1) (bU (C++ [y]))) (a:Nat×Nat):
 ((w.setCell ⟨g,C.length*2,none⟩ (.int .i64 (a.1:Int))).setCell ⟨g,C.length*2+1,none⟩ (.int .i64 (a.2:Int))).ownsRow B 114 2 (.slice (some g) (C.length+1) cap) (C.length+1) (bU (C++ [a])):=by
 rcases l.2 with ⟨b,_⟩|⟨x,v,k,b,m,n,o,p,q,d⟩
 · cases b
 · injection b with h8 h9 h10;injection h8 with h8;injection h8 with h8 _;subst h8 h10;have r:Bk w g 114 k:=n;have s:=(r.set (C.length*2) (.int .i64 (a.1:Int))).set (C.length*2+1) (.int .i64 (a.2:Int));refine ⟨by rw [dG];simp,.inr ⟨g,cap,_,rfl,m,s,o,p,by simpa using q,?_⟩⟩;rw [lC] at d⊢;have e:=dG C;apply List.ext_getElem?;intro i;have c:=congrArg (fun t=>t[i]?) d;simp only [zBs,Array.getElem?_toList] at c;rw [zBs,Array.getElem?_toList,zCd,zCd];by_cases u:i < C.length*2
   · rw [zBx oM] at c⊢;rw [zBw oM,zBw oM,c,zAn oM,zAn oM]
   · by_cases f:i=C.length*2;subst f;rw [zBx oM,zBw oM,zBx rfl,zBx oM,zAo oM,e,Nat.sub_self];rfl
     · by_cases j:i=C.length*2+1;subst j;rw [zBx oM,zBx rfl,zBx (by simp;omega),zAo oM,e,show C.length*2+1 - C.length*2=1 by omega];rfl
       · rw [zBw oM,zBg (by simp [nK];omega)]
def aDI (B c u s t A R P n k U row v w) (q:PermAt w B c u s t A (.slice none 0 0) R P n k U []) (bP:n.Pairwise (fun ch f=>aD k ch < aD k f)) (aV:∀j∈n,aD k j < row) (bO:∀j∈n,aI k j≠v) (cS:row < R) (cR:v < P) (af:U.length=k.length) (ct:k.length<=900000) (r:n.length<=900000) (bt:B<=w.heap.size):
 Calls prog 46 #[c,(row:Int),(v:Int)] w fun H w'=>H=.returned (.int .i64 0)/\Keep (PF c u s t A) w w'/\∃b5 b6 a5,PermAt w' B c u b5 b6 a5 (.slice none 0 0) R P (n++ [k.length]) (k++ [(row,v)]) (U++ [true]) []/\(b6.ownBlock=t.ownBlock∨∃e,b6.ownBlock=some e/\w.heap.size<=e)/\(b5.ownBlock=s.ownBlock∨∃e,b5.ownBlock=some e/\w.heap.size<=e)/\(a5.ownBlock=A.ownBlock∨∃e,a5.ownBlock=some e/\w.heap.size<=e):=by
 obtain ⟨cE,cx,cB,cC,cD⟩:=info_parts tR;have bz:n.countP (fun j=>decide (aD k j < row))=n.length:=List.countP_eq_length.2 fun j r=>by simpa using aV j r
 have bA:decide (∃j∈n,aD k j=row)=false:=by rw [decide_eq_false_iff_not];rintro ⟨j,r,H⟩;have:=aV j r;omega
 have bJ:jQ (fun j=>decide (aI k j=v)) n 0=-1:=lG (fun j r=>by simpa using bO j r) 0;have cj:w.cell? ⟨c,3,none⟩=some (.int .i64 (R:Int)):=(q.blk.cell 3).trans rfl;have ck:w.cell? ⟨c,4,none⟩=some (.int .i64 (P:Int)):=(q.blk.cell 4).trans rfl;have a8:=kW B c u s t A (.slice none 0 0) R P n k U [] row w q bP oM;rw [bz,bA] at a8;have aO:=fun cg cu=>jO B c u s t A (.slice none 0 0) R P n k U [] v cg cu oM;simp only [bJ] at aO;obtain ⟨z,aR⟩:=eqx n.length;obtain ⟨N,bu⟩:=eqx k.length;rw [aR] at a8;obtain ⟨bg,am,ax,E,bj⟩:=hqq5 aO q aR bu af;have cQ:N<=900000:=oM;have cU:z<=900000:=oM;have ao:=lhd bt;clear bz bA bJ aO bP aV bO q aR bu af ct r bt;go_enter func46,ntmps46;go_wp2_with fail;refine a8.mono ?_;clear a8;rintro H w1 ⟨rfl,aF⟩;have L:=am.out.below aF;obtain ⟨an,ap⟩:=hqq2 L aF;clear L aF cj ck;go_wp2_with fail;refine (bg.out w1 an.out).mono ?_;rintro H V ⟨rfl,aG⟩;have Z:=an.out.below aG;have bw:=ap.out.trans (aG.mono ap.out.size);have ci:V.cell? c=some (.pointer (some u)):=(Z.blk.cell 0).trans rfl;obtain ⟨m,J⟩:=hqq2 Z bw;clear Z bw aG an ap bg;go_wp2_with fail;obtain ⟨bb,bo,ak,_⟩:=aW m.out.trow;have ag:U.length=N:=by rw [bj.out,E.out]
 have aC:=sT B u bb bo none 0 N U V (by have:=m.out.ar;rw [ak,ag] at this;exact this) (by have:=m.out.trow;rw [ak,ag] at this;exact this) (by have:=ao.out;have:=J.out.size;omega) oM;have bY:A=.slice bb N bo:=by rw [ak,ag]
 rw [<-bY] at aC;refine aC.mono ?_;clear aC ak bY ag;rintro H b7 ⟨rfl,a0,a5,bx,bN,bB⟩;have a3:=a0.bk m.out.blk (fun a=>by
  rcases a with a | a;exact Bk.ne m.out.blk m.out.ar dC a
  · exact bC m.out.trow m.out.blk dC a.symm)
 have ah:=iB m.out.lrow a0 (fun f l a b=>by
  rcases a with a | a;subst a;exact Bk.ne b m.out.ar dC rfl
  · exact bC m.out.trow b dC a.symm)
 have bV:=iB m.out.orow a0 (fun f l a b=>by
  rcases a with a | a;subst a;exact Bk.ne b m.out.ar dC rfl
  · exact bC m.out.trow b dC a.symm)
 obtain ⟨c4,cm,bS,_⟩:=aW ah;have aY:s=.slice c4 N cm:=by rw [bS,E.out]
 have a2:b7.cell? ⟨c,1,none⟩=some s:=(a3.cell 1).trans rfl;have cp:=a3.frozen 1;rw [aY] at a2;have cw:=a3.lt;rw [E.out] at ah;have cs:B<=b7.heap.size:=by have:=a0.size;have:=ao.out;have:=J.out.size;omega
 obtain ⟨aw,au,bi,c5,av,X,bm,bl⟩:=hqq8 a0 bx bN bB a3 ah bV aY;have cn:=(World.cell?_alloc_lt b7 (Obj.cells #[o0,o0] 114) ⟨c,1,none⟩ cw).trans a2;clear a0 bx bN bB a3 ah bV bS aY ci;go_wp2_with fail;refine wp_loop_rounds 2 ?_;rw [rounds_succ];go_wp2_with (at_builtin;refine bL _ rfl (.tmp 72) (.tmp 74) _ rfl B 114 cE (.agg #[o0,o0]) 2 16 underlying74 cx cB cC cD rfl dC s N _ bl.out.symm X.out rfl rfl (by simp [Value.oneCell']) (by unfold maxLen;omega) oM cs ?_;intro cW D aT aK cV bv;have a9:=av.out.grown aK (bC X.out av.out dC);have bq:D.cell? ⟨c,1,none⟩=some s:=(a9.cell 1).trans rfl;have co:=a9.frozen 1;rw [bl.out] at bq;obtain ⟨c3,o,rfl,cA⟩:=aS aT;obtain ⟨K,ay,a1,bc⟩:=hqq4 a9 aT aK bv;clear cA aT aK bv a9);obtain ⟨d,bp,rfl,cT,aJ,cv⟩:∃d,∃a6:Array Value,c3=some ⟨d,0,none⟩/\B<=d/\Bk D d 114 a6/\N*2+1 < a6.size:=by rcases ay.out.2 with ⟨L,Z⟩|⟨e,cl,a6,L,Z,cr,cK,cL,cM,cN⟩;omega;injection L with L _ _;exact ⟨e,a6,L,Z,cr,by omega⟩
 have bI:c≠d:=Bk.ne K.out aJ dC;have a4:=K.out.set 1 (.slice (some ⟨d,0,none⟩) (N+1) o);have M:=aJ.far (p:=⟨c,1,none⟩) (fun H=>bI H.symm) (.slice (some ⟨d,0,none⟩) (N+1) o);have aP:Keep (PF c u s t A) V (D.setCell ⟨c,1,none⟩ (.slice (some ⟨d,0,none⟩) (N+1) o)):=
  ((aw.out.mono (G:=PF c u s t A) (fun f _ a=>by rcases a with a | a;exact .inr (.inl a);exact .inr (.inr (.inr (.inr a))))).grown a1.out (fun j r=>.inl (.inr (.inr (.inl r))))).setCell (.inl (.inl rfl)) _
 have aZ:=aA (w':=D.setCell ⟨c,1,none⟩ (.slice (some ⟨d,0,none⟩) (N+1) o)) ay.out fun f l _ b=>b.far (p:=⟨c,1,none⟩) (Bk.ne b K.out dC) _;have bW:=aA (w':=D) bm.out fun f l _ b=>b.grown a1.out (bC X.out b dC);have aj:=aA (w':=D.setCell ⟨c,1,none⟩ (.slice (some ⟨d,0,none⟩) (N+1) o)) bW fun f l _ b=>b.far (p:=⟨c,1,none⟩) (Bk.ne b K.out dC) _;have aM:=au.out.grown a1.out (bC X.out au.out dC);have aN:=aM.far (p:=⟨c,1,none⟩) (Bk.ne aM K.out dC) (.slice (some ⟨d,0,none⟩) (N+1) o);have bZ:=aA (w':=D) bi.out fun f l _ b=>b.grown a1.out (bC X.out b dC);have b2:=aA (w':=D.setCell ⟨c,1,none⟩ (.slice (some ⟨d,0,none⟩) (N+1) o)) bZ fun f l _ b=>b.far (p:=⟨c,1,none⟩) (Bk.ne b K.out dC) _;have bD:(Value.slice (some ⟨d,0,none⟩) (N+1) o).ownBlock=s.ownBlock∨∃e,(Value.slice (some ⟨d,0,none⟩) (N+1) o).ownBlock=some e/\V.heap.size<=e:=by rcases bc.out with a | a;exact .inl a;exact .inr ⟨_,a,by have:=aw.out.size;omega⟩
 clear aw au bi av X bm K ay a1 bc a2 cp cn co bq bW aM bZ;generalize D.setCell ⟨c,1,none⟩ (.slice (some ⟨d,0,none⟩) (N+1) o)=w6 at a4 M aP aZ aj aN b2⊢;have a2:w6.cell? ⟨c,1,none⟩=some (.slice (some ⟨d,0,none⟩) (N+1) o):=(a4.cell 1).trans rfl;have b8:=M.cell (N*2);have b9:=M.cell (N*2+1);rw [zAq oM] at b8 b9;have cF:=M.frozen (N*2);have cG:=M.frozen (N*2+1);generalize bp[N*2]' oM=u0 at b8;generalize bp[N*2+1]' oM=u1 at b9;obtain ⟨c8,aq,bh,cb,cd,be,ce,bd⟩:=hqq8 a4 M aP aZ aj aN b2 bD;have cy:decide (N+1<=N)=false:=by simp
 have cz:decide ((N:Int)+1<=(N:Int))=false:=by simp;omega
 have a7:w6.cell? ⟨c,2,none⟩=some t:=(a4.cell 2).trans rfl;obtain ⟨ba,bn,bU,_⟩:=aW aj;have b1:t=.slice ba z bn:=by rw [bU,ax.out]
 have az:=lhd b1;rw [b1] at a7;clear a4 M aP aZ aj aN b2 bD bU b1 aJ cv;rw [rounds_succ];go_wp2_with fail
 have ai:=aIy (C:=k) (y:=(0,0)) (g:=d) (cap:=o) (w:=w6) (B:=B) (by
  rw [E.out,lC];exact cb.out) (row,v)
 rw [E.out] at ai;have T:Keep (fun f=>f=d) w6 ((w6.setCell ⟨d,N*2,none⟩ (.int .i64 (row:Int))).setCell ⟨d,N*2+1,none⟩ (.int .i64 (v:Int))):=((kf (fun f=>f=d) w6).setCell (p:=⟨d,N*2,none⟩) (.inl rfl) _).setCell (p:=⟨d,N*2+1,none⟩) (.inl rfl) _;have aX:((w6.setCell ⟨d,N*2,none⟩ (.int .i64 (row:Int))).setCell ⟨d,N*2+1,none⟩ (.int .i64 (v:Int))).heap.size=w6.heap.size:=by simp [World.setCell]
 rw [<-aX];clear b8 b9 cF cG a2 a7 cy cz;generalize (w6.setCell ⟨d,N*2,none⟩ (.int .i64 (row:Int))).setCell ⟨d,N*2+1,none⟩ (.int .i64 (v:Int))=w7 at ai T aX⊢;have bH:=T.bk c8.out (fun a=>bI a);have bF:=T.bk be.out (fun a=>by subst a;exact Bk.ne be.out aq.out dC rfl);have bX:=iB cd.out T (fun f l a b=>by subst a;exact Bk.ne b aq.out dC rfl);have c0:=iB ce.out T (fun f l a b=>by subst a;exact Bk.ne b aq.out dC rfl);have cO:B<=V.heap.size:=by have:=ao.out;have:=J.out.size;omega
 have cP:=bh.out.size;have aB:B<=(w7.alloc (.cells #[(N:Int)] 3)).heap.size:=by simp;omega
 have b4:w7.heap.size < (w7.alloc (.cells #[(N:Int)] 3)).heap.size:=by simp
 have ae:Rd (w7.alloc (.cells #[(N:Int)] 3)) (w7.alloc (.cells #[(N:Int)] 3)).heap.size 1 (some ⟨w7.heap.size,0,none⟩) 1 [sv N]:=(Rd.new_ w7 3 1 #[(N:Int)] rfl).mono (by simp);have x:=bX.alloc (.cells #[(N:Int)] 3);have b0:=ai.alloc (.cells #[(N:Int)] 3);have b3:=c0.alloc (.cells #[(N:Int)] 3);have ab:=bH.alloc (.cells #[(N:Int)] 3);have aa:=bF.alloc (.cells #[(N:Int)] 3);have aH:Below w7.heap.size w7 (w7.alloc (.cells #[(N:Int)] 3)):=bR.alloc nL _;obtain ⟨cq,aL⟩:=eqx w7.heap.size;rw [aL] at ae b4;rw [aL];generalize w7.alloc (.cells #[(N:Int)] 3)=w8 at aB ae x b0 b3 ab aa aH b4⊢;have aQ:Keep (PF c u s t A) V w8:=(bh.out.trans' (T.trans' (kF aH) (fun _ _ a=>a)) (fun f b a=>by
  rcases bd.out with q |⟨e,q,cJ⟩;exact .inr (.inr (.inl (by rw [<-q,a];rfl)))
  · exfalso;have:d=e:=(by simpa [Value.ownBlock] using q);omega))
 rw [ax.out,az.out] at x;have bK:=qC B ba z bn (n.map sv) (some ⟨cq,0,none⟩) 1 N w8 x ae aB oM;refine bK.mono ?_;clear bK;rintro H I ⟨c2,rfl,aU,O,aE⟩;rw [<-az.out] at O aE x;have ac:=ab.grown O (bC x ab dC);have bG:=aa.grown O (bC x aa dC);have bT:=aA (w':=I) b0 fun f l _ b=>b.grown O (bC x b dC);have c1:=aA (w':=I) b3 fun f l _ b=>b.grown O (bC x b dC);have bM:=aQ.grown O (fun j r=>.inl (.inr (.inr (.inr (.inl r)))));have bE:c2.ownBlock=t.ownBlock∨∃e,c2.ownBlock=some e/\V.heap.size<=e:=by rcases aE with a | a;exact .inl a;exact .inr ⟨_,a,aQ.size⟩
 have a7:I.cell? ⟨c,2,none⟩=some t:=(ac.cell 2).trans rfl;rw [az.out] at a7;have cI:=ac.frozen 2;obtain ⟨W,Y,bQ,_⟩:=aW aU;obtain ⟨cH,bf,c7,cc,cf,ca,c9,c6⟩:=hqq8 bQ ac bG bT c1 aU bM bE;clear ai T aX bH bF bX c0 aB b4 ae x b0 b3 ab aa aH aL aQ O aE ac bG bT c1 aU bM bE;subst bQ;go_wp2_with fail;go_ret;have ad:∀f al l,Bk I f al l->al≠120->Bk (I.setCell ⟨c,2,none⟩ (.slice W (z+1) Y)) f al l:=fun f al l b af=>b.far (p:=⟨c,2,none⟩) (Bk.ne b bf.out af) _;refine ⟨rfl,(kF J.out).trans' (c9.out.setCell (.inl (.inl rfl)) _) (fun _ _ a=>a),.slice (some ⟨d,0,none⟩) (N+1) o,.slice W (z+1) Y,a5,⟨bf.out.set 2 _,?_,?_,ad _ _ _ c7.out dC,?_,?_,?_,?_,am.out.lo⟩,?_,?_,?_⟩;have:=aA (w':=I.setCell ⟨c,2,none⟩ (.slice W (z+1) Y)) cc.out fun f l _ b=>ad _ _ _ b dC;simpa [E.out] using this;have:=aA (w':=I.setCell ⟨c,2,none⟩ (.slice W (z+1) Y)) ca.out fun f l _ b=>ad _ _ _ b dC;simpa [ax.out,E.out] using this;have:=aA (w':=I.setCell ⟨c,2,none⟩ (.slice W (z+1) Y)) cf.out fun f l _ b=>ad _ _ _ b dC;simpa [bj.out,E.out] using this;exact kj _ _ _ _;rcases (Value.slice W (z+1) Y).ownBlock with _ | e;exact .inl rfl;exact .inr (by simp [Value.ownBlock]);intro j r;rcases zCp.1 r with q | q;have:=am.out.lt j q;simp;omega;simp at q;simp;omega;rcases c6.out with a |⟨e,a,br⟩;exact .inl a;exact .inr ⟨e,a,by have:=J.out.size;omega⟩;rcases bd.out with a |⟨e,a,br⟩;exact .inl a;exact .inr ⟨e,a,by have:=J.out.size;omega⟩;rcases c5.out with a |⟨e,a,br⟩;exact .inl a;exact .inr ⟨e,a,by have:=J.out.size;omega⟩
def OwnF (F:Nat->Prop) (b:Value):Prop:=∀a,b.ownBlock=some a->F a
def Gw (F:Nat->Prop) (b:Nat) (a:Nat):Prop:=F a∨b<=a
def Gw.keep {F w w1 b} (c:Keep F w w1) (d:Keep (Gw F w.heap.size) w1 b):Keep F w b:=c.trans' d fun e f a=>by
 rcases a with a | a;exact a;omega
def OwnF.mono {F G b} (c:OwnF F b) (e:∀a,F a->G a):OwnF G b:=fun a d=>e a (c a d)
def OwnF.slice {F b f e c} (d:F b):OwnF F (.slice (some ⟨b,f,none⟩) e c):=fun g a=>by
 injection a with a;rw [<-a];exact d
def OwnF.at {F a e d b} (c:OwnF F (.slice (some ⟨a,e,none⟩) d b)):F a:=c a rfl
def ArenaE (w:World) (F:Nat->Prop) (g:Nat) (b:List Bool) (a:List Nat):Prop:=
 F g/\∃d f c e,Bk w g 168 #[.slice d b.length f,.slice c a.length e,(268435456:Int)]/\w.ownsRow 0 4 1 (.slice d b.length f) b.length (b.map Value.bool)/\w.ownsRow 0 3 1 (.slice c a.length e) a.length (a.map sv)/\OwnF F (.slice d b.length f)/\OwnF F (.slice c a.length e)
def aJ5 {w:World} {B a m b c:Nat} {e:TypeId} {d:Option Addr} {k:List Value} (f:w.ownsRow B e b (.slice d a c) a k) (s:m<=a) (x:0 < a):w.ownsRow B e b (.slice d m c) m (k.take (m*b)):=by
 rcases f.2 with ⟨g,j⟩|⟨n,u,l,g,j,o,v,p,q,r⟩;omega
 · injection g with h8 h9 h10;subst h8 h10;have t:m*b<=a*b:=Nat.mul_le_mul_right _ s;refine ⟨by rw [zAj,f.1];omega,.inr ⟨n,c,l,rfl,j,o,by omega,p,q,?_⟩⟩;rw [<-r,List.take_take,zCt t]
def aJ6 {w:World} {B c l b:Nat} {f:TypeId} {e:Option Addr} {m:List Value} (g:w.ownsRow B f l (.slice e c b) c m):c<=b/\b<=maxLen:=by
 rcases g.2 with ⟨a,d⟩|⟨p,n,o,a,d,q,j,k,r,s⟩;injection a with _ _ a;subst a;subst d;exact ⟨zAs _,zAp _⟩;injection a with _ _ a;subst a;exact ⟨j,k⟩
def ArenaE.vis {w w' F c d b} (k:ArenaE w F c d b) (a:Vis w w'):ArenaE w' F c d b:=by
 obtain ⟨l,f,j,e,g,m,n,o,p,q⟩:=k;exact ⟨l,f,j,e,g,a.bk m dC dC,a.own n dC dC,a.own o dC dC,p,q⟩
def ArenaE.mono {w F G e k d} (p:ArenaE w F e k d) (c:∀a,a < w.heap.size->F a->G a):ArenaE w G e k d:=by
 obtain ⟨q,m,o,l,n,f,g,j,r,s⟩:=p;exact ⟨c _ f.lt q,m,o,l,n,f,g,j,fun a b=>c a (g.lt a b).2 (r a b),fun a b=>c a (j.lt a b).2 (s a b)⟩
def ArenaE.keep {w w' F G j p g} (u:ArenaE w F j p g) (f:Keep G w w') (e:∀a o c,o∈ [168,4,3]->Bk w a o c->F a->¬G a):ArenaE w' F j p g:=by
 obtain ⟨k,r,t,q,s,l,v,x,m,n⟩:=u;refine ⟨k,r,t,q,s,f.bk l (e _ _ _ dC l k),aA v fun a c d b=>f.bk b (e _ _ _ dC b (m a d)),aA x fun a c d b=>f.bk b (e _ _ _ dC b (n a d)),m,n⟩
def vB (F c b k n w) (an:ArenaE w F c k (n++ [b])) (aw:b < k.length) (aD:k.length<=1000000) (a4:n.length < k.length):
 Calls prog 86 #[c] w fun l w'=>l=.returned (.tuple #[(b:Int),o0])/\ArenaE w' F c (k.set b true) n/\Keep F w w':=by
 obtain ⟨a1,aE,E,aF,g,q,t,s,O,M⟩:=an;obtain ⟨N,K⟩:=eqx k.length;obtain ⟨a,r⟩:=eqx n.length;have a7:(n++ [b]).length=a+1:=by simp [r]
 rw [a7] at q s M;rw [K] at q t O aD aw a4;rw [r] at a4;obtain ⟨gt,aM,H,_,av⟩:=kk t oM;injection H with H _ hcc;subst H hcc;obtain ⟨e,aI,I,_,a6⟩:=kk s oM;injection I with I _ hcc2;subst I hcc2;have aX:=aJ6 s;have T:=aJ5 (m:=a) s oM oM;have a5:((n++ [b]).map sv).take (a*1)=n.map sv:=by
  have:(n.map sv).length=a:=by rw [zBc,r]
  rw [zAz,zBl,<-this,List.take_left]
 rw [a5] at T;have Y:w.cell? ⟨e,a,none⟩=some (.int .i64 (b:Int)):=by refine (ki s a oM).trans ?_;rw [zAz,zAo (by simp [r]),zBc,r,Nat.sub_self];rfl
 obtain ⟨C,ac⟩:∃C,k[b]?=some C:=⟨_,zAa oM⟩;have a0:w.cell? ⟨gt,b,none⟩=some (.bool C):=by refine (ki t b oM).trans ?_;rw [zAf,ac];rfl
 have ab:c≠gt:=fun l=>bC t q dC (by rw [l];rfl);have aY:c≠e:=fun l=>bC s q dC (by rw [l];rfl);have au:∃z,Bk w gt 4 z:=by
  rcases t.2 with ⟨j,_⟩|⟨aW,aJ,z,j,_,ao,_⟩
  · cases j
  injection j with j _ _;injection j with j;injection j with j _;subst j;exact ⟨z,ao⟩
 obtain ⟨z,a3⟩:=au;have b1:=q.lt;obtain ⟨v,aj,ah,ag,af,V,U,W⟩:=hqq8 q t T O M a3 K r;clear q t s T O M a5 a7 ac K r a3;go_enter func86,ntmps86;go_wp2;refine wp_region_any kR ?_;refine aO [10,11,12,13,14,15,16,9] (Grow) (Vs [is c,is (.int .i64 ((N -(a+1):Nat):Int)),is c,is c,is (.pointer (some ⟨c,2,none⟩)),is (.int .i64 268435456),is (.bool false),is (.bool false)]) _ _ rfl kR bR (fun _ _=>Grow.trans) (cS tA1) ?_ ?_
 · refine aK ?_;refine pH 0 (.pointer (some c)) ?_;refine sC (fun _ y d _ _ _ u _ _ _ J=>?_) ?_
   · have aR:_=_:=u 0 10 kR rfl;replace d:(Grow) w y:=gD d;go_simp;refine (qE c (some ⟨gt,0,none⟩) E (some ⟨e,0,none⟩) g N (a+1) y (v.out.below d v.out.lt) oM oM).mono ?_;rintro l b8 ⟨rfl,L⟩;exact J _ _ L rfl
   refine pH 0 (.pointer (some c)) ?_;refine pV 2 12 ?_;refine pV 3 13 ?_;refine pL 4 14 (fun y d=>have d:(Grow) w y:=gD d;(((v.out.below d v.out.lt).cell 2).trans rfl:y.cell? ⟨c,2,none⟩=some (.int .i64 268435456))) ?_;refine sC (fun _ _ _ _ _ _ u _ _ _ J=>?_) ?_
   · have aS:_=_:=u 1 11 kR rfl;have aT:_=_:=u 5 15 kR rfl;have b3:(((N -(a+1):Nat):Int)==268435456)=false:=(by rw [zCb];omega);go_simp;exact J _ _ bR (by first | rfl | simp [is] |(simp [is];omega))
   refine pV 6 16 ?_;exact aC
 · intro am f d u;replace d:(Grow) w f:=gD d;have al:am (.tmp 9)=.bool false:=u 7 9 rfl;simp only [zqq];rw [al];clear u;have x:=v.out.below d v.out.lt;have A:=V.out.below d V.out.lt;have aG:f.cell? c=some (.slice (some gt) N E):=(x.cell 0).trans rfl;have aH:f.cell? ⟨c,1,none⟩=some (.slice (some e) (a+1) g):=(x.cell 1).trans rfl;have aU:=x.frozen 1;have aV:=A.frozen b;have aL:f.cell? ⟨e,a,none⟩=some (.int .i64 (b:Int)):=(d.cell (p:=⟨e,a,none⟩) a6).trans Y;have aN:f.cell? ⟨gt,b,none⟩=some (.bool C):=(d.cell (p:=⟨gt,b,none⟩) av).trans a0;have aZ:=x.lt;have b2:=A.lt;have b0:e < f.heap.size:=zAl a6 d.size;have a9:=aQ aj.out d;have a8:=aQ ah.out d;obtain ⟨ad,D,ae,ak,ai⟩:=hqq5 d x A a9 a8;have aP:IntKind.i64.wrap (((a+1:Nat):Int) - 1)=(a:Int):=(by rw [wI0];omega);have b4:(a:Int) < ((a+1:Nat):Int):=oM;have b5:(b:Int) < (N:Int):=oM;have b6:(a:Int)<=(g:Int):=oM;have b7:((a+1:Nat):Int) > 0:=oM;clear d x A a9 a8 Y a0;go_wp2_with fail;go_ret2;have ax:Keep F w f:=kF ad.out;have aq:=D.out.set 1 (.slice (some e) a g);have L:=aq.far (p:=⟨gt,b,none⟩) ab (.bool true);have aB:=aA (w':=f.setCell ⟨c,1,none⟩ (.slice (some e) a g)) ak.out fun X Z _ o=>o.far (Bk.ne o D.out dC) _;have aa:=(kl aB b (.bool true)).1;have ay:=aA (w':=f.setCell ⟨c,1,none⟩ (.slice (some e) a g)) ai.out fun X Z _ o=>o.far (Bk.ne o D.out dC) _;have ar:=ae.out.far (p:=⟨c,1,none⟩) (fun l=>ab l.symm) (.slice (some e) a g);have az:=aA (w':=(f.setCell ⟨c,1,none⟩ (.slice (some e) a g)).setCell ⟨gt,b,none⟩ (.bool true)) ay fun X Z _ o=>o.far (Bk.ne o ar dC) _;have a2:F gt:=OwnF.at ag.out;have ap:F e:=OwnF.at af.out;rw [show ((k.map Value.bool).set b (.bool true))=(k.set b true).map Value.bool by rw [List.map_set]] at aa;refine ⟨rfl,⟨a1,some ⟨gt,0,none⟩,E,some ⟨e,0,none⟩,g,?_,?_,?_,?_,?_⟩,?_⟩;rw [zAt,U.out,W.out];exact L;rw [zAt,U.out];exact aa;rw [W.out];exact az;rw [zAt];exact OwnF.slice a2;exact OwnF.slice ap;exact ka (F:=F) (ka (F:=F) ax (p:=⟨c,1,none⟩) (.inl a1) _) (p:=⟨gt,b,none⟩) (.inl a2) _
def aDX (F) (d a:Nat) (g m w) (n:ArenaE w F d g m) (f:g[a]?=some true):
 Calls prog 236 #[d,(a:Int)] w fun l w'=>l=.returned (.bool true)/\w=w':=by
 obtain ⟨z,s,k,t,v,b,c,r,q,p⟩:=n;obtain ⟨o,_⟩:=zAc.1 f;obtain ⟨N,j⟩:=eqx g.length;rw [j] at b c o;obtain ⟨gt,y,e,_,C⟩:=kk c oM;injection e with e _ hcc;subst e hcc;have u:w.cell? d=some (.slice (some gt) N k):=(b.cell 0).trans rfl;have x:w.cell? ⟨gt,a,none⟩=some (.bool true):=by refine (ki c a oM).trans ?_;rw [zAf,f];rfl
 have A:=b.lt;have E:(a:Int) < (N:Int):=oM;have D:decide ((a:Int)>=0)=true:=by simp
 clear b c r q p j f;go_enter func236,ntmps236;go_wp2_with fail;go_ret;exact ⟨rfl,rfl⟩
def aDP (F) (c j a:Nat) (q n w) (o:ArenaE w F c q n) (H:q[a]?=some true) (v:Bk w j 3 #[(a:Int)]) (az:n.length<=1000000):
 Calls prog 214 #[c,.slice (some j) 1 1] w fun m w'=>m=.returned (.int .i64 0)/\ArenaE w' (Gw F w.heap.size) c (q.set a false) (n++ [a])/\Keep F w w':=by
 have ae:=aDX F c a q n w o H;obtain ⟨ab,aR,z,r,s,d,l,Y,W,V⟩:=o;obtain ⟨aF,_⟩:=zAc.1 H;obtain ⟨aP,aC,aM,aN,aO⟩:=info_parts gN;obtain ⟨N,O⟩:=eqx q.length;obtain ⟨e,U⟩:=eqx n.length;rw [U] at d Y V az;rw [O] at d l W aF;obtain ⟨gt,aT,M,_,b1⟩:=kk l oM;injection M with M _ hcc;subst M hcc;have ar:w.cell? ⟨gt,a,none⟩=some (.bool true):=by refine (ki l a oM).trans ?_;rw [zAf,H];rfl
 have aL:c≠gt:=fun m=>bC l d dC (by rw [m];rfl);have aB:∃C,Bk w gt 4 C:=by
  rcases l.2 with ⟨b,_⟩|⟨aa,aq,C,b,_,L,_⟩
  · cases b
  injection b with b _ _;injection b with b;injection b with b _;subst b;exact ⟨C,L⟩
 obtain ⟨C,E⟩:=aB;have ax:=E.frozen a;have ap:w.cell? c=some (.slice (some gt) N z):=(d.cell 0).trans rfl;have au:w.cell? j=some (.int .i64 (a:Int)):=(v.cell 0).trans rfl;have aZ:=d.lt;have b0:=v.lt;have b2:(a:Int) < (N:Int):=oM;have aK:j≠gt:=Bk.ne v E dC;obtain ⟨f,k⟩:=eqx (w.setCell ⟨gt,a,none⟩ (.bool false));have u:Bk f c 168 #[.slice (some gt) N z,.slice r e s,(268435456:Int)]:=by rw [<-k];exact d.far (p:=⟨gt,a,none⟩) aL _
 have a0:Bk f j 3 #[(a:Int)]:=by rw [<-k];exact v.far (p:=⟨gt,a,none⟩) aK _
 have ah:f.ownsRow 0 4 1 (.slice (some gt) N z) N ((q.set a false).map Value.bool):=by rw [<-k,List.map_set];exact (kl l a (.bool false)).1
 have Z:f.ownsRow 0 3 1 (.slice r e s) e (n.map sv):=by rw [<-k];exact aA Y fun y a8 _ g=>g.far (p:=⟨gt,a,none⟩) (Bk.ne g E dC) _
 have ac:F gt:=OwnF.at W;have af:Keep F w f:=by rw [<-k];exact ka (F:=F) (kf _ _) (p:=⟨gt,a,none⟩) (.inl ac) _
 have aV:f.cell? ⟨c,1,none⟩=some (.slice r e s):=(u.cell 1).trans rfl;have aY:=u.lt;have ag:Rd f f.heap.size 1 (some ⟨j,0,none⟩) 1 [.int .i64 (a:Int)]:=⟨rfl,fun _=>⟨j,0,rfl,a0.lt,fun I b4 ai=>by
  rw [zBi,a0.cell];rcases I with _ | I;exact ai
  · simp at ai⟩⟩
 obtain ⟨al,a7,a6,a4,ao,aj,a5,K,a2⟩:=hqq9 u ah Z af ag k V U O;have am:=lhd (bC Z u dC);clear d l Y W V O U E v H u a0 ah Z af k ag;go_enter func214,ntmps214;go_wp2_with fail;refine wp_loop_rounds 2 ?_;rw [rounds_succ];go_wp2_with fail;refine ae.mono ?_;rintro m w1 ⟨rfl,rfl⟩;clear ae;go_wp2_with fail;rw [aj.out];clear ap au ar ax;rw [rounds_succ];go_wp2_with (at_builtin;refine bF _ rfl (.tmp 48) (.tmp 49) _ rfl 0 3 aP (.int .i64 0) 1 8 underlying39 aC aM aN aO rfl dC (.slice r e s) e _ rfl a6.out _ _ _ _ _ rfl ao.out (by simp [Value.oneCell']) (by unfold maxLen;omega) oM (zAp _) ?_;intro b5 a1 X T ad;have D:=al.out.grown T am.out;have aX:=D.frozen 1;have aW:=D.cell 1;obtain ⟨an,a3,ak,J⟩:=hqq4 X T ad D;obtain ⟨x,A,rfl,aG⟩:=aS X;clear X T ad D aG);go_ret;have aE:Keep F w a1:=a4.out.grown a3.out (fun I aD=>.inl (a5.out I aD));have ay:=J.out.set 1 (.slice x (e+1) A)
 have aI:=World.ownsRow.kept a7.out a3.out (by
  rcases hh:(Value.slice r e s).ownBlock with _ | aQ
  · right;simp [Value.ownBlock]
  · right;intro m;have av:gt=aQ:=(by simpa [Value.ownBlock] using m);subst av;rcases a6.out.2 with ⟨b,_⟩|⟨aa,aq,aU,b,_,L,_⟩
    · rw [b] at hh;simp [Value.ownBlock] at hh
    · rw [b] at hh;have aw:aa=gt:=(by simpa [Value.ownBlock] using hh);subst aw;exact bC a7.out (t:=3) L dC rfl)
 have aJ:=aA (w':=a1.setCell ⟨c,1,none⟩ (.slice x (e+1) A)) aI fun y a8 _ g=>g.far (Bk.ne g J.out dC) _;have aH:=aA (w':=a1.setCell ⟨c,1,none⟩ (.slice x (e+1) A)) an.out fun y a8 _ g=>g.far (Bk.ne g J.out dC) _;have b3:=a4.out.size;refine ⟨rfl,⟨.inl ab,some ⟨gt,0,none⟩,z,x,A,?_,?_,?_,?_,?_⟩,?_⟩;rw [zAt,a2.out,zAi,K.out];exact ay;rw [zAt,a2.out];exact aJ;rw [zAi,K.out,zAz];exact aH;exact OwnF.slice (.inl ac);intro y d;rw [zAi,K.out] at d;rcases ak.out with o | o;exact .inl (a5.out y (o.symm.trans d));have a9:=o.symm.trans d;injection a9 with a9;exact .inr oM;exact ka (F:=F) aE (p:=⟨c,1,none⟩) (.inl ab) _
def TreeE (w:World) (F:Nat->Prop) (gt:Nat) (bs:List Bool):Prop:=
 F gt/\∃(a:Nat) (d:Int),
   (bs= []/\F a/\Bk w gt 226 #[a,(),(-1:Int),(d:Int)]/\Bk w a 168 #[(),(),(268435456:Int)])∨
   (bs= []/\∃b c f,F b/\Bk w gt 226 #[a,.slice (some ⟨b,0,none⟩) 1 c,(-1:Int),(d:Int)]/\w.ownsRow 0 229 8 (.slice (some ⟨b,0,none⟩) 1 c) 1 f/\ArenaE w F a [false] [0])∨
   (bs≠ []/\bs.length<=128/\∃b c e,F b/\F e/\LeafV w 0 gt a b c e 0 d bs/\ArenaE w F a [true] [])
section
variable {w w' : World} {F G : Nat -> Prop} {gt : Nat} {bs : List Bool}
def TreeE.at (m:TreeE w F gt bs):TreeAt w gt bs:=by
 obtain ⟨n,c,e,⟨a,d,b,j⟩|⟨a,g,f,p,d,b,j,k⟩|⟨a,d,g,f,l,b,j,k,o⟩⟩:=m;exact ⟨c,e,.inl ⟨a,_,b⟩⟩;exact ⟨c,e,.inl ⟨a,_,b⟩⟩;exact ⟨c,e,.inr ⟨a,d,g,f,l,k⟩⟩
def TreeE.le (g:TreeE w F gt bs):bs.length<=128:=by
 obtain ⟨m,k,p,⟨a,b,c,d⟩|⟨a,f,e,o,b,c,d,j⟩|⟨a,b,f,e,l,c,d,j,n⟩⟩:=g
 · rw [a];simp
 · rw [a];simp
 exact b
def TreeE.vis (p:TreeE w F gt bs) (a:Vis w w'):TreeE w' F gt bs:=by
 obtain ⟨l,j,t,⟨b,c,d,e⟩|⟨b,k,g,s,c,d,e,n⟩|⟨b,c,k,g,o,d,e,n,r⟩⟩:=p;obtain ⟨f,m⟩:=a.tree d;exact ⟨l,j,f,.inl ⟨b,c,m,a.bk e dC dC⟩⟩;obtain ⟨f,m⟩:=a.tree d;exact ⟨l,j,f,.inr (.inl ⟨b,k,g,s,c,m,a.own e dC dC,n.vis a⟩)⟩;obtain ⟨f,q⟩:=n.vis a;exact ⟨l,j,f,.inr (.inr ⟨b,c,k,g,o,d,e,q,r.vis a⟩)⟩
def TreeE.mono (p:TreeE w F gt bs) (a:∀g,g < w.heap.size->F g->G g):TreeE w G gt bs:=by
 obtain ⟨m,k,n,⟨e,f,b,c⟩|⟨e,l,j,r,f,b,c,d⟩|⟨e,f,l,j,o,b,c,d,q⟩⟩:=p;exact ⟨a _ b.lt m,k,n,.inl ⟨e,a _ c.lt f,b,c⟩⟩;exact ⟨a _ b.lt m,k,n,.inr (.inl ⟨e,l,j,r,a _ (c.lt _ rfl).2 f,b,c,d.mono a⟩)⟩;exact ⟨a _ d.tree.lt m,k,n,.inr (.inr ⟨e,f,l,j,o,a _ d.row.lt.2 b,a _ d.blk.lt c,d,q.mono a⟩)⟩
def TreeE.keep (v:TreeE w F gt bs) (c:Keep G w w') (b:∀a m e,m∈ [226,168,229,245,4,3]->Bk w a m e->F a->¬G a):TreeE w' F gt bs:=by
 obtain ⟨l,r,t,⟨n,f,d,g⟩|⟨n,s,q,y,f,d,g,j⟩|⟨n,f,s,q,u,d,g,j,x⟩⟩:=v;exact ⟨l,r,t,.inl ⟨n,f,c.bk d (b _ _ _ dC d l),c.bk g (b _ _ _ dC g f)⟩⟩;exact ⟨l,r,t,.inr (.inl ⟨n,s,q,y,f,c.bk d (b _ _ _ dC d l),aA g (fun a e k o=>c.bk o (b _ _ _ dC o (by injection k with k;rw [<-k];exact f))),j.keep c fun a m e p=>b a m e (by simp at p;rcases p with rfl | rfl | rfl <;> decide)⟩)⟩;exact ⟨l,r,t,.inr (.inr ⟨n,f,s,q,u,d,g,⟨c.bk j.tree (b _ _ _ dC j.tree l),aA j.row (fun a e k o=>c.bk o (b _ _ _ dC o (by injection k with k;rw [<-k];exact d))),c.bk j.blk (b _ _ _ dC j.blk g)⟩,x.keep c fun a m e p=>b a m e (by simp at p;rcases p with rfl | rfl | rfl <;> decide)⟩)⟩
def TreeE.below (b:TreeE w F gt bs) (c:Below w.heap.size w w'):TreeE w' F gt bs:=b.keep (G:=fun _=>False) (kF c) fun _ _ _ _ _ _ a=>a
end
def TreeB.own {w B gt bs} (r:TreeB w B gt bs):TreeE w (fun b=>B<=b) gt bs:=by
 obtain ⟨f,l,j,k,⟨c,d,a⟩|⟨c,d,q,o,p,t,a⟩⟩:=r;exact ⟨j,f,l,.inl ⟨c,k,d,a⟩⟩
 · obtain ⟨m,n,s,g⟩:=a.arena;refine ⟨j,f,l,.inr (.inr ⟨c,d,q,o,p,a.row.lt.1,t,a.toV,k,m,n,none,0,s,bN g.own (zAp _),kj _ _ _ _,fun b e=>(g.own.lt b e).1,fun b e=>by cases e⟩)⟩
def LeafV.set_visits {w gt c e b d g k bs} (a:LeafV w 0 gt c e b d g k bs) (j):LeafV (w.setCell ⟨gt,3,none⟩ (.int .i64 j)) 0 gt c e b d g j bs:=
 ⟨a.tree.set 3 _,aA a.row fun l m _ f=>f.far (p:=⟨gt,3,none⟩) (Bk.ne f a.tree dC) _,a.blk.far (p:=⟨gt,3,none⟩) (Bk.ne a.blk a.tree dC) _⟩
def LeafV.set_root {w gt c e b d k j bs} (a:LeafV w 0 gt c e b d k j bs) (g):LeafV (w.setCell ⟨gt,2,none⟩ (.int .i64 g)) 0 gt c e b d g j bs:=
 ⟨a.tree.set 2 _,aA a.row fun l m _ f=>f.far (p:=⟨gt,2,none⟩) (Bk.ne f a.tree dC) _,a.blk.far (p:=⟨gt,2,none⟩) (Bk.ne a.blk a.tree dC) _⟩
def LeafV.below {w w' B gt d f c e g j bs} (a:LeafV w B gt d f c e g j bs) (b:Below w.heap.size w w'):LeafV w' B gt d f c e g j bs:=
 ⟨a.tree.below b a.tree.lt,aQ a.row b,a.blk.below b a.blk.lt⟩
def aCV (gt o d n b f j a bs w) (c:LeafV w 0 gt o d n b 0 j bs) (J:bs.length<=127) (u:f<=bs.length):
 Calls prog 239 #[gt,o0,(f:Int),.bool a] w fun e w'=>e=.returned (.int .i64 0)/\(∃ad,LeafV w' 0 gt o d n b 0 ad (aV bs f a))/\Keep (fun a=>a=gt∨a=d∨a=b) w w':=by
 obtain ⟨ai,aj,ak,al,an,ao,ap,a8,a9,aq,ar,au⟩:=c.cells;have az:=c.row.lt.2;have aB:=c.tree.lt;have ay:=c.blk.lt;have ac:gt≠d:=c.row.bk_ne c.tree dC;have aa:b≠d:=c.row.bk_ne c.blk dC;have ab:gt≠b:=Bk.ne c.tree c.blk dC;have av:=c.tree.frozen 3;have K:(aV bs f a).length<=128:=by rw [gO _ _ u];omega
 obtain ⟨m,x⟩:=eqx bs.length;obtain ⟨r,L⟩:=eqx (bs.count true);have s:=(c.set_visits (wrap64 (j+1))).below (bR.alloc nL (.cells #[(-1:Int),(-1:Int),o0,(m:Int),(r:Int),o0,o0,b] 229));have v:Keep (fun a=>a=gt∨a=d∨a=b) w ((w.setCell ⟨gt,3,none⟩ (.int .i64 (wrap64 (j+1)))).alloc (.cells #[(-1:Int),(-1:Int),o0,(m:Int),(r:Int),o0,o0,b] 229)):=
  (ka (F:=fun a=>a=gt∨a=d∨a=b) (kf _ _) (p:=⟨gt,3,none⟩) (.inl (.inl rfl)) _).alloc _
 have g:=ke (w.setCell ⟨gt,3,none⟩ (.int .i64 (wrap64 (j+1)))) 229 #[(-1:Int),(-1:Int),o0,(m:Int),(r:Int),o0,o0,b];rw [x] at a8;rw [L] at a9;obtain ⟨A,t⟩:=eqx ((w.setCell ⟨gt,3,none⟩ (.int .i64 (wrap64 (j+1)))).alloc (.cells #[(-1:Int),(-1:Int),o0,(m:Int),(r:Int),o0,o0,b] 229));rw [t] at s v g;have T:(w.setCell ⟨gt,3,none⟩ (.int .i64 (wrap64 (j+1)))).heap.size=w.heap.size:=by simp [World.setCell]
 rw [T] at g;have af:A.cell? ⟨w.heap.size,7,none⟩=some (.pointer (some b)):=(g.cell 7).trans rfl;have ax:=g.lt;have aw:((m:Int)==128)=false:=by rw [zCb];omega
 obtain ⟨k,a1,ah,Z,a6,a4,a0,a5⟩:=hqq8 s v g t x J u K;clear c s v g t x L T J u K;go_enter func239,ntmps239;go_wp2_with fail;rw [Z.out];refine (tH b bs A k.out.blk).mono ?_;rintro e aC ⟨rfl,rfl⟩;rw [a6.out];go_wp2_with fail;refine (vQ b bs f a _ k.out.blk a4.out a0.out).mono ?_;rintro e W ⟨rfl,D,l⟩;have U:=l.bk k.out.tree ab;have M:=aA k.out.row (w':=W) fun X am _ C=>l.bk C (fun e=>Bk.ne C k.out.blk dC e);have H:=a1.out.trans (l.mono (G:=fun a=>a=gt∨a=d∨a=b) fun X _ e=>.inr (.inr e));obtain ⟨y,ag,z,a7,a2⟩:=hqq5 D l U M H;clear D l U M H af;go_wp2_with fail;refine (sE gt o d n b 0 0 _ (aV bs f a) W z.out a7.out y.out a5.out).mono ?_;rintro e ae ⟨rfl,q,O⟩;have V:=q.bk z.out ac;have E:=q.bk y.out aa;have I:=a2.out.trans (q.mono (G:=fun a=>a=gt∨a=d∨a=b) fun X _ e=>.inr (.inl e));obtain ⟨Y,a3⟩:=hqq2 (show LeafV ae 0 gt o d n b 0 _ (aV bs f a) from ⟨V,O,E⟩) I;clear V E I q O;go_wp2_with fail;go_ret;exact ⟨rfl,⟨_,Y.out⟩,a3.out⟩
def aLk {a:List Value} (l:a.length=8):∃b c d e f g j k,a= [b,c,d,e,f,g,j,k]:=by
 match a,l with
 | [b,c,d,e,f,g,j,k],_=>exact ⟨b,c,d,e,f,g,j,k,rfl⟩
def fW {w B e k d f c l} (g:w.ownsRow B c k (.slice (some d) e f) e l):∃b,Bk w d c b:=by
 rcases g.2 with ⟨a,_⟩|⟨n,m,b,a,_,j,_⟩
 · cases a
 injection a with a _ _;injection a with a;injection a with a _;subst a;exact ⟨b,j⟩
def ArenaE.own {w F o s m} (E:ArenaE w F o s m):∃f:Nat->Prop,(∀b,f b->F b)/\(∀b c d,f b->Bk w b c d->c=168∨c=4∨c=3)/\(∀b,f b->b < w.heap.size)/\ArenaE w f o s m:=by
 obtain ⟨H,u,x,t,v,p,q,r,I,J⟩:=E;have y:∀ {l:TypeId} {g k b:Nat} {j:Option Addr} {z:List Value} {c:TypeId} {d:Array Value},w.ownsRow 0 l 1 (.slice j g k) g z->(Value.slice j g k).ownBlock=some b->Bk w b c d->c=l:=fun {l g k b j z c d} K a e=>by
  rcases K.2 with ⟨n,_⟩|⟨C,L,M,n,_,D,_⟩
  · rw [n] at a;cases a
  rw [n] at a;injection a with a;have A:C=b:=a;subst A;exact (aP e D).1
 refine ⟨fun b=>b=o∨(Value.slice u s.length x).ownBlock=some b∨(Value.slice t m.length v).ownBlock=some b,fun b a=>?_,fun b c d a e=>?_,fun b a=>?_,.inl rfl,u,x,t,v,p,q,r,fun b a=>.inr (.inl a),fun b a=>.inr (.inr a)⟩;rcases a with rfl | a | a;exact H;exact I b a;exact J b a;rcases a with rfl | a | a;exact .inl (aP e p).1;exact .inr (.inl (y q a e));exact .inr (.inr (y r a e));rcases a with rfl | a | a;exact p.lt;exact (q.lt b a).2;exact (r.lt b a).2
def aEB (F) (gt k a g f:Nat) (K:Int) (Z bs w) (C:Bk w gt 226 #[k,.slice (some a) 1 g,(-1:Int),(K:Int)]) (Y:w.ownsRow 0 229 8 (.slice (some a) 1 g) 1 Z) (E:ArenaE w F k [false] [0]) (H:Bk w f 245 (iS bs)) (aU:bs.length<=128) (aa:F a):
 Calls prog 251 #[gt,.agg #[(-1:Int),(-1:Int),o0,o0,o0,o0,o0,f]] w fun d w'=>d=.returned (.int .i64 0)/\Keep F w w'/\LeafV w' 0 gt k a g f (-1) K bs/\ArenaE w' F k [true] []:=by
 obtain ⟨t,a9,ab,O,E⟩:=E.own;obtain ⟨bl,x⟩:=fW Y;have bB:=C.lt;have bz:=H.lt;have bA:=x.lt;have W:gt≠a:=Bk.ne C x dC;have ai:f≠a:=Bk.ne H x dC;have aX:w.cell? gt=some (.pointer (some k)):=(C.cell 0).trans rfl;have ar:∀b o r,Bk w b o r->o≠168->o≠4->o≠3->¬t b:=fun b o r m aJ aL aM V=>by rcases ab b o r V m with d | d | d;exact aJ d;exact aL d;exact aM d
 have v:=E.keep (G:=fun _=>False) (kF (bR.alloc nL (.cells #[(-1:Int),(-1:Int),o0,o0,o0,o0,o0,f] 229))) (fun _ _ _ _ _ _ q=>q);obtain ⟨a5,a0,a1,aG,L,bi,bh⟩:=hqq7 C v H Y ar x O;have aR:¬t w.heap.size:=fun q=>by have:=O _ q;omega
 clear C E H Y ar v ab x O;go_enter func251,ntmps251;go_wp2_with fail;refine (vB t k 0 [false] [] _ a0.out (by simp) (by simp) (by simp)).mono ?_;rintro d w1 ⟨rfl,v,X⟩;have aq:Bk w1 w.heap.size 229 #[(-1:Int),(-1:Int),o0,o0,o0,o0,o0,f]:=by have u:=ke w 229 #[(-1:Int),(-1:Int),o0,o0,o0,o0,o0,f];exact X.bk u aR
 have A:Keep t w w1:=(kF ((kh w.heap.size w).alloc nL _)).trans X;have I:=A.bk a5.out (L.out _ _ _ a5.out dC dC dC);have af:=A.bk a1.out (L.out _ _ _ a1.out dC dC dC);have al:=aA (w':=w1) aG.out fun b r _ m=>A.bk m (L.out _ _ _ m dC dC dC);have aS:w.heap.size≠a:=fun d=>by omega
 have aZ:w1.cell? ⟨gt,1,none⟩=some (.slice (some a) 1 g):=(I.cell 1).trans rfl;have bC:=I.lt;obtain ⟨ax,aH,aF,a6,aB,a3⟩:=hqq6 (show ArenaE w1 t k [true] [] from v) aq A I af al;clear v X aq A I af al aX a0;go_wp2_with fail;refine wp_region_any kR ?_;refine aY [32,33,34,35,36,37,38] (fun b=>b=a) 7 [7] (fun s=>s.ownsRow 0 229 8 (.slice (some a) 1 g) 1 Z) (fun _ s=>RowS 0 a g f 0 0 s) [is gt,is gt,is (.pointer (some ⟨gt,1,none⟩)),is (.slice (some a) 1 g),is o0,is (.agg #[(-1:Int),(-1:Int),o0,o0,o0,o0,o0,f]),is a,cJ] _ _ rfl kR kR (a3.out) (fun w1 s u _ aO=>aQ u aO) (fun _ _ _ u aW=>RowS.grow u aW) tA0 ?_ ?_
 · refine aK ?_;refine pH3 0 (.pointer (some gt)) ?_;refine pV3 0 32 ?_;refine pV3 1 33 ?_;refine pL3 2 34 (fun c e=>have e:Keep (fun b=>b=a) w1 c:=kD e;(((e.bk a6.out W).cell 1).trans rfl:c.cell? ⟨gt,1,none⟩=some (.slice (some a) 1 g))) ?_;refine pH3 5 (.int .i64 0) ?_;refine sC3 (fun a8 c e _ _ _ aV _ _ _ _ T=>?_) ?_
   · replace e:Keep (fun b=>b=a) w1 c:=kD e;have bm:a8 (.tmp 3)=.pointer (some w.heap.size):=aV 3 kR;have n:=e.bk aH.out aS;have b9:c.cell? w.heap.size=some (.int .i64 (-1)):=(n.cell 0).trans rfl;have ba:c.cell? ⟨w.heap.size,1,none⟩=some (.int .i64 (-1)):=(n.cell 1).trans rfl;have bb:c.cell? ⟨w.heap.size,2,none⟩=some (.int .i64 0):=(n.cell 2).trans rfl;have bc:c.cell? ⟨w.heap.size,3,none⟩=some (.int .i64 0):=(n.cell 3).trans rfl;have bd:c.cell? ⟨w.heap.size,4,none⟩=some (.int .i64 0):=(n.cell 4).trans rfl;have be:c.cell? ⟨w.heap.size,5,none⟩=some (.int .i64 0):=(n.cell 5).trans rfl;have bf:c.cell? ⟨w.heap.size,6,none⟩=some (.int .i64 0):=(n.cell 6).trans rfl;have bg:c.cell? ⟨w.heap.size,7,none⟩=some (.pointer (some f)):=(n.cell 7).trans rfl;go_simp;exact kq T rfl
   refine pW3 3 35 4 36 ?_;refine sC3 (fun _ c _ aN _ _ _ J _ _ _ T=>?_) ?_
   · have j:=aN rfl;have bo:_=_:=J 6 38 kR rfl;have bn:_=_:=J 5 37 kR rfl;obtain ⟨b0,b1,b2,b3,b4,b5,b6,b7,rfl⟩:=aLk (show Z.length=8 from j.1);have b9:c.cell? a=some b0:=(ki j 0 oM).trans rfl;have ba:c.cell? ⟨a,1,none⟩=some b1:=(ki j 1 oM).trans rfl;have bb:c.cell? ⟨a,2,none⟩=some b2:=(ki j 2 oM).trans rfl;have bc:c.cell? ⟨a,3,none⟩=some b3:=(ki j 3 oM).trans rfl;have bd:c.cell? ⟨a,4,none⟩=some b4:=(ki j 4 oM).trans rfl;have be:c.cell? ⟨a,5,none⟩=some b5:=(ki j 5 oM).trans rfl;have bf:c.cell? ⟨a,6,none⟩=some b6:=(ki j 6 oM).trans rfl;have bg:c.cell? ⟨a,7,none⟩=some b7:=(ki j 7 oM).trans rfl;obtain ⟨bj,l⟩:=fW j;have bp:=l.frozen 0;have bq:=l.frozen 1;have br:=l.frozen 2;have bt:=l.frozen 3;have bu:=l.frozen 4;have bv:=l.frozen 5;have bw:=l.frozen 6;have bx:=l.frozen 7;go_simp;refine T (.bool true) _ (aT ?_) ?_;exact ka (F:=fun b=>b=a) (ka (F:=fun b=>b=a) (ka (F:=fun b=>b=a) (ka (F:=fun b=>b=a) (ka (F:=fun b=>b=a) (ka (F:=fun b=>b=a) (ka (F:=fun b=>b=a) (ka (F:=fun b=>b=a) (kf _ _) (p:=a) (.inl rfl) _) (p:=⟨a,1,none⟩) (.inl rfl) _) (p:=⟨a,2,none⟩) (.inl rfl) _) (p:=⟨a,3,none⟩) (.inl rfl) _) (p:=⟨a,4,none⟩) (.inl rfl) _) (p:=⟨a,5,none⟩) (.inl rfl) _) (p:=⟨a,6,none⟩) (.inl rfl) _) (p:=⟨a,7,none⟩) (.inl rfl) _;exact (kl (kl (kl (kl (kl (kl (kl (kl j 0 _).1 1 _).1 2 _).1 3 _).1 4 _).1 5 _).1 6 _).1 7 _).1
   exact aC
 · intro a8 D e J ae;replace e:Keep (fun b=>b=a) w1 D:=kD e;obtain ⟨bD,au⟩:∃b8,(fun _ s=>RowS 0 a g f 0 0 s) b8 D:=ae 7 dC;simp only [zqq];clear J ae;have am:RowS 0 a g f 0 0 D:=au;have ao:=e.bk a6.out W;have ag:=e.bk aB.out ai;have ac:=ax.out.keep e fun b o r y m V=>fun d=>by have M:b=a:=d;subst M;obtain ⟨aI,U⟩:=fW a3.out;rw [(aP m U).1] at y;exact absurd y dC
   have aj:Keep F w D:=(aF.out.mono fun b _ q=>a9 b q).trans (e.mono fun b _ d=>by rw [d];exact aa);obtain ⟨a4,a7,a2,ay,aD⟩:=hqq5 am ao ag ac aj;clear au am ao ag ac aj e aZ;go_wp2_with fail;refine (sE gt k a g f 0 (-1) K bs D a7.out a4.out a2.out aU).mono ?_;rintro d av ⟨rfl,z,an⟩;have ap:=z.bk a7.out W;have ah:=z.bk a2.out ai;have ad:=ay.out.keep z fun b o r y m V=>fun d=>by have M:b=a:=d;subst M;obtain ⟨aI,U⟩:=fW a4.out;rw [(aP m U).1] at y;exact absurd y dC
   have ak:Keep F w av:=aD.out.trans (z.mono fun b _ d=>by rw [d];exact aa);have aw:=lhd (show LeafV av 0 gt k a g f (-1) K bs from ⟨ap,an,ah⟩);have az:=lhd (ad.mono (G:=F) fun b _ q=>a9 b q);have aE:=lhd ak;clear ap ah ad ak z an;go_wp2_with fail;go_ret;exact ⟨rfl,aE.out,aw.out,az.out⟩
def aEH (F) (gt a b c d:Nat) (e:Int) (g bs w) (r:Bk w gt 226 #[a,.slice (some b) 1 c,(-1:Int),(e:Int)]) (q:w.ownsRow 0 229 8 (.slice (some b) 1 c) 1 g) (m:ArenaE w F a [false] [0]) (n:Bk w d 245 (iS bs)) (p:bs.length<=128) (l:F b):
 Calls prog 238 #[gt,d] w fun f w'=>f=.returned (.int .i64 0)/\Keep F w w'/\LeafV w' 0 gt a b c d (-1) e bs/\ArenaE w' F a [true] []:=by
 go_enter func238,ntmps238;go_wp2_with fail;refine (aEB F gt a b c d e g bs w r q m n p l).mono ?_;rintro f w1 ⟨rfl,o,j,k⟩;go_wp2_with fail;go_ret;exact ⟨rfl,o,j,k⟩
def TreeE.set_visits {w F gt bs} (a:TreeE w F gt bs) (b):TreeE (w.setCell ⟨gt,3,none⟩ (.int .i64 b)) F gt bs:=by
 have g:=a;obtain ⟨m,k,o,⟨d,_,c,_⟩|⟨d,f,e,n,_,c,_,_⟩|⟨d,_,f,e,l,_,_,j,_⟩⟩:=g;exact a.vis (Vis.set_tree c b);exact a.vis (Vis.set_tree c b);exact a.vis (Vis.set_tree j.tree b)
def aBi (gt c az:Nat) (D:Int) (g F w) (k:F gt) (O:F c) (s:Bk w gt 226 #[c,(),(-1:Int),(D:Int)]) (U:Bk w c 168 #[(),(),(268435456:Int)]):
 Calls prog 217 #[gt,o0,.bool g] w fun b w'=>b=.returned (.int .i64 0)/\TreeE w' (Gw F w.heap.size) gt [g]/\Keep F w w':=by
 have a6:=eZ gt [] w ⟨c,D,.inl ⟨rfl,_,s⟩⟩;have an:=s.lt;obtain ⟨ah,H⟩:=hqq2 s U;clear s U;go_enter func217,ntmps217;go_wp2_with fail;refine a6.mono ?_;rintro b w1 ⟨rfl,n⟩;clear a6;have d:=ah.out.below n an;have u:=H.out.below n H.out.lt;have ap:gt≠c:=Bk.ne d u dC;have av:=d.lt;have K:w1.cell? ⟨gt,2,none⟩=some (.int .i64 (-1)):=(d.cell 2).trans rfl;have L:w1.cell? ⟨gt,3,none⟩=some (.int .i64 D):=(d.cell 3).trans rfl;have M:=d.frozen 3;have z:=d.set 3 (.int .i64 0);have v:=u.far (p:=⟨gt,3,none⟩) (fun b=>ap b.symm) (.int .i64 0);have q:Keep F w (w1.setCell ⟨gt,3,none⟩ (.int .i64 0)):=ka (F:=F) (kF n) (p:=⟨gt,3,none⟩) (.inl k) _;obtain ⟨f,m⟩:=eqx (w1.setCell ⟨gt,3,none⟩ (.int .i64 0));have a7:w1.heap.size=f.heap.size:=by rw [<-m];simp [World.setCell]
 rw [m] at z v q;have ay:=q.size;have ag:=lhd a7;clear a7;obtain ⟨aa,J,I,ae⟩:=hqq4 m z v q;clear n d u m z v q;go_wp2_with fail;rw [aa.out];clear K L M;refine (nH (some ⟨w1.heap.size,0,none⟩) 1 1 _ [g] (f.alloc (.cells #[.bool g] 4)) (Rd.made' f 4 1 1 #[.bool g] w1.heap.size rfl ag.out) nL dC).mono ?_;rintro b E ⟨rfl,x,Z⟩;rw [sZ0] at x;have o:Below f.heap.size f E:=(bR.alloc nL _).trans (Z.mono (by simp));have A:=J.out.below o J.out.lt;have V:=I.out.below o I.out.lt;have a1:Keep F w E:=ae.out.trans (kF o);obtain ⟨ai,ab,ad,t⟩:=hqq4 A V x a1;have aw:=A.lt;clear Z o A V x a1;rw [sZ0];go_wp2_with fail;refine (xR gt c (f.heap.size+1) 0 [g] E ai.out ab.out ad.out (by simp)).mono ?_;rintro b e ⟨rfl,a2,am,ak,r⟩;have j:=r.toV;have ar:=j.tree.frozen 2;have K:e.cell? ⟨gt,2,none⟩=some (.int .i64 (-1)):=(j.tree.cell 2).trans rfl;have ax:=j.tree.lt;have l:=j.set_root 0;have M:=l.tree.frozen 3;have L:(e.setCell ⟨gt,2,none⟩ (.int .i64 0)).cell? ⟨gt,3,none⟩=some (.int .i64 0):=(l.tree.cell 3).trans rfl;have T:=l.set_visits 1;obtain ⟨a8,aj,W,y⟩:=r.arena;have au:=r.row.lt;have a3:Keep F w e:=t.out.trans' a2 fun a _ b=>by rcases b with rfl | rfl;exact O;exact k
 have a4:Keep F w ((e.setCell ⟨gt,2,none⟩ (.int .i64 0)).setCell ⟨gt,3,none⟩ (.int .i64 1)):=ka (F:=F) (ka (F:=F) a3 (p:=⟨gt,2,none⟩) (.inl k) _) (p:=⟨gt,3,none⟩) (.inl k) _;have X:ArenaE e (Gw F w.heap.size) c [true] []:=⟨.inl O,a8,aj,none,0,W,bN y.own (zAp _),kj _ _ _ _,fun a C=>.inr (by have:=(y.own.lt a C).1;have:=t.out.size;omega),fun a C=>by cases C⟩;have a5:Keep (fun a=>a=gt) e ((e.setCell ⟨gt,2,none⟩ (.int .i64 0)).setCell ⟨gt,3,none⟩ (.int .i64 1)):=ka (F:=fun a=>a=gt) (ka (F:=fun a=>a=gt) (kf _ _) (p:=⟨gt,2,none⟩) (.inl rfl) _) (p:=⟨gt,3,none⟩) (.inl rfl) _;have Y:=X.keep a5 fun a aA aq a0 ao _=>fun b=>by have al:a=gt:=b;subst al;rw [(aP ao j.tree).1] at a0;exact absurd a0 dC
 obtain ⟨a9,af,ac⟩:=hqq3 T a4 Y;clear j l T r W y a3 a4 X a5 Y a2;go_wp2_with fail;go_ret;exact ⟨rfl,⟨.inl k,c,1,.inr (.inr ⟨by simp,by simp,am,ak,_,.inr (by have:=t.out.size;omega),.inr oM,a9.out,ac.out⟩)⟩,af.out⟩
def aBj (gt k l r:Nat) (H:Int) (e ab F w) (s:F gt) (T:F l) (x:Bk w gt 226 #[k,.slice (some l) 1 r,(-1:Int),(H:Int)]) (a7:w.ownsRow 0 229 8 (.slice (some l) 1 r) 1 ab) (V:ArenaE w F k [false] [0]):
 Calls prog 217 #[gt,o0,.bool e] w fun b w'=>b=.returned (.int .i64 0)/\TreeE w' (Gw F w.heap.size) gt [e]/\Keep F w w':=by
 have a6:=eZ gt [] w ⟨k,H,.inl ⟨rfl,_,x⟩⟩;have au:=x.lt;obtain ⟨aq,ae,am⟩:=hqq3 x V a7;clear x V a7;go_enter func217,ntmps217;go_wp2_with fail;refine a6.mono ?_;rintro b w1 ⟨rfl,m⟩;clear a6;have c:=aq.out.below m au;have W:=ae.out.keep (G:=fun _=>False) (kF m) (fun _ _ _ _ _ _ j=>j);have a8:=aQ am.out m;have ax:=c.lt;have K:w1.cell? ⟨gt,2,none⟩=some (.int .i64 (-1)):=(c.cell 2).trans rfl;have L:w1.cell? ⟨gt,3,none⟩=some (.int .i64 H):=(c.cell 3).trans rfl;have O:=c.frozen 3;have D:=c.set 3 (.int .i64 0);have a5:Keep (fun a=>a=gt) w1 (w1.setCell ⟨gt,3,none⟩ (.int .i64 0)):=ka (F:=fun a=>a=gt) (kf _ _) (p:=⟨gt,3,none⟩) (.inl rfl) _;have z:=W.keep a5 fun a av M o g _=>fun b=>by have y:a=gt:=b;subst y;rw [(aP g c).1] at o;exact absurd o dC
 have C:=aA (w':=w1.setCell ⟨gt,3,none⟩ (.int .i64 0)) a8 fun a M _ g=>g.far (p:=⟨gt,3,none⟩) (Bk.ne g c dC) _;have v:Keep F w (w1.setCell ⟨gt,3,none⟩ (.int .i64 0)):=ka (F:=F) (kF m) (p:=⟨gt,3,none⟩) (.inl s) _;obtain ⟨d,u⟩:=eqx (w1.setCell ⟨gt,3,none⟩ (.int .i64 0));have aa:w1.heap.size=d.heap.size:=by rw [<-u];simp [World.setCell]
 rw [u] at D z v C;have aB:=v.size;have ap:=lhd aa;clear aa;obtain ⟨ad,J,af,an,aj⟩:=hqq5 u D z C v;clear m c W a8 u D z v C a5;go_wp2_with fail;rw [ad.out];clear K L O;refine (nH (some ⟨w1.heap.size,0,none⟩) 1 1 _ [e] (d.alloc (.cells #[.bool e] 4)) (Rd.made' d 4 1 1 #[.bool e] w1.heap.size rfl ap.out) nL dC).mono ?_;rintro b I ⟨rfl,A,a0⟩;rw [sZ0] at A;have n:Below d.heap.size d I:=(bR.alloc nL _).trans (a0.mono (by simp));have E:=J.out.below n J.out.lt;have X:=af.out.keep (G:=fun _=>False) (kF n) (fun _ _ _ _ _ _ j=>j);have a9:=aQ an.out n;have a1:Keep F w I:=aj.out.trans (kF n);obtain ⟨ar,ag,ai,ao,ak⟩:=hqq5 E X A a9 a1;have ay:=E.lt;clear a0 n E X A a1 a9;rw [sZ0];go_wp2_with fail;refine (aEH F gt k l r (d.heap.size+1) 0 ab [e] I ar.out ao.out ag.out ai.out (by simp) T).mono ?_;rintro b q ⟨rfl,a2,f,Y⟩;have aw:=f.tree.frozen 2;have K:q.cell? ⟨gt,2,none⟩=some (.int .i64 (-1)):=(f.tree.cell 2).trans rfl;have az:=f.tree.lt;have t:=f.set_root 0;have O:=t.tree.frozen 3;have L:(q.setCell ⟨gt,2,none⟩ (.int .i64 0)).cell? ⟨gt,3,none⟩=some (.int .i64 0):=(t.tree.cell 3).trans rfl;have U:=t.set_visits 1;have a3:Keep F w ((q.setCell ⟨gt,2,none⟩ (.int .i64 0)).setCell ⟨gt,3,none⟩ (.int .i64 1)):=ka (F:=F) (ka (F:=F) (ak.out.trans a2) (p:=⟨gt,2,none⟩) (.inl s) _) (p:=⟨gt,3,none⟩) (.inl s) _;have a4:Keep (fun a=>a=gt) q ((q.setCell ⟨gt,2,none⟩ (.int .i64 0)).setCell ⟨gt,3,none⟩ (.int .i64 1)):=ka (F:=fun a=>a=gt) (ka (F:=fun a=>a=gt) (kf _ _) (p:=⟨gt,2,none⟩) (.inl rfl) _) (p:=⟨gt,3,none⟩) (.inl rfl) _;have Z:=(Y.keep a4 fun a av M o g _=>fun b=>by
  have y:a=gt:=b;subst y;rw [(aP g f.tree).1] at o;exact absurd o dC).mono (G:=Gw F w.heap.size) fun a _ j=>.inl j
 obtain ⟨ac,al,ah⟩:=hqq3 U a3 Z;clear f t U Y a3 a4 Z a2;go_wp2_with fail;go_ret;exact ⟨rfl,⟨.inl s,k,1,.inr (.inr ⟨by simp,by simp,l,r,_,.inl T,.inr oM,ac.out,ah.out⟩)⟩,al.out⟩
def aCU (gt j l r k f E q bs F w) (t:F gt) (M:F l) (L:F k) (s:LeafV w 0 gt j l r k 0 E bs) (T:ArenaE w F j [true] []) (Z:bs.length<=127) (d:f<=bs.length) (ag:bs≠ []):
 Calls prog 217 #[gt,(f:Int),.bool q] w fun a w'=>a=.returned (.int .i64 0)/\TreeE w' F gt (aV bs f q)/\Keep F w w':=by
 have D:=eZ gt bs w ⟨j,E,.inr ⟨ag,by omega,l,r,k,s⟩⟩;obtain ⟨ah,a1⟩:=eqx bs.length;rw [a1] at D;have ap:¬((f:Int) > (ah:Int)):=oM;have ao:decide ((f:Int) < 0)=false:=by simp
 have al:=s.tree.lt;obtain ⟨a3,a6,I,H⟩:=hqq4 s T Z d;clear s T a1 Z d;go_enter func217,ntmps217;go_wp2_with fail;refine D.mono ?_;rintro a w1 ⟨rfl,u⟩;clear D;have e:=a3.out.below u;have U:=a6.out.keep (G:=fun _=>False) (kF u) (fun _ _ _ _ _ _ ad=>ad);have am:=e.tree.lt;have J:w1.cell? ⟨gt,2,none⟩=some (.int .i64 0):=(e.tree.cell 2).trans rfl;have ac:w1.cell? ⟨gt,3,none⟩=some (.int .i64 E):=(e.tree.cell 3).trans rfl;have ae:=e.tree.frozen 3;have m:Keep (fun b=>b=gt) w1 (w1.setCell ⟨gt,3,none⟩ (.int .i64 0)):=ka (F:=fun b=>b=gt) (kf _ _) (p:=⟨gt,3,none⟩) (.inl rfl) _;have z:=U.keep m fun b a2 K c d _=>fun a=>by have v:b=gt:=a;subst v;rw [(aP d e.tree).1] at c;exact absurd c dC
 have x:=e.set_visits 0;have A:Keep F w (w1.setCell ⟨gt,3,none⟩ (.int .i64 0)):=ka (F:=F) (kF u) (p:=⟨gt,3,none⟩) (.inl t) _;obtain ⟨ab,y⟩:=eqx (w1.setCell ⟨gt,3,none⟩ (.int .i64 0));rw [y] at x z A;obtain ⟨a5,o,a7,a9⟩:=hqq4 y x z A;clear u e U y x z A m;go_wp2_with fail;rw [a5.out];clear J ac ae;refine (aCV gt j l r k f 0 q bs ab o.out I.out H.out).mono ?_;rintro a n ⟨rfl,⟨ai,g⟩,C⟩;have ak:=g.tree.frozen 2;have J:n.cell? ⟨gt,2,none⟩=some (.int .i64 0):=(g.tree.cell 2).trans rfl;have an:=g.tree.lt;have O:=g.set_root 0;have V:=a7.out.keep C fun b a2 K c d _=>fun a=>by rcases a with a | a | a;subst a;rw [(aP d o.out.tree).1] at c;exact absurd c dC;subst a;obtain ⟨aj,af⟩:=fW o.out.row;rw [(aP d af).1] at c;exact absurd c dC;subst a;rw [(aP d o.out.blk).1] at c;exact absurd c dC
 have m:Keep (fun b=>b=gt) n (n.setCell ⟨gt,2,none⟩ (.int .i64 0)):=ka (F:=fun b=>b=gt) (kf _ _) (p:=⟨gt,2,none⟩) (.inl rfl) _;have W:=V.keep m fun b a2 K c d _=>fun a=>by have v:b=gt:=a;subst v;rw [(aP d g.tree).1] at c;exact absurd c dC
 have X:Keep F w n:=a9.out.trans (C.mono fun b _ a=>by
  rcases a with rfl | rfl | rfl;exact t;exact M
  · exact L)
 have Y:Keep F w (n.setCell ⟨gt,2,none⟩ (.int .i64 0)):=ka (F:=F) X (p:=⟨gt,2,none⟩) (.inl t) _;obtain ⟨a4,a8,aa⟩:=hqq3 O W Y;clear g O V W C X Y m;go_wp2_with fail;go_ret;have a0:(aV bs f q).length=bs.length+1:=gO _ _ H.out;refine ⟨rfl,⟨t,j,ai,.inr (.inr ⟨fun a=>?_,?_,l,r,k,M,L,a4.out,a8.out⟩)⟩,aa.out⟩
 · rw [a] at a0;simp at a0
 have:=I.out;omega
def yO (F gt a b bs w) (u:TreeE w F gt bs) (y:bs.length<=127) (m:a<=bs.length):
 Calls prog 217 #[gt,(a:Int),.bool b] w fun o w'=>o=.returned (.int .i64 0)/\TreeE w' (Gw F w.heap.size) gt (aV bs a b)/\Keep F w w':=by
 obtain ⟨k,g,n,⟨rfl,e,c,d⟩|⟨rfl,j,f,z,e,c,d,l⟩|⟨v,e,j,f,t,c,d,l,x⟩⟩:=u;obtain rfl:a=0:=(by simpa using m);exact aBi gt g 0 n b F w k e c d;obtain rfl:a=0:=(by simpa using m);exact aBj gt g j f n b z F w k e c d l;refine (aCU gt g j f t a n b bs F w k c d l x y m v).mono ?_;rintro o w' ⟨p,q,r⟩;exact ⟨p,q.mono fun A _ s=>.inl s,r⟩
def aGR (gt n d m b f j bs w) (c:LeafV w 0 gt n d m b 0 j bs) (I:bs.length<=128) (u:f < bs.length):
 Calls prog 235 #[gt,o0,(f:Int)] w fun e w'=>e=.returned (.tuple #[o0,.bool (bs.getD f false)])/\(∃ac,LeafV w' 0 gt n d m b 0 ac (aF bs f))/\Keep (fun a=>a=gt∨a=d∨a=b) w w':=by
 obtain ⟨ai,aj,ak,al,an,ao,ap,a7,a8,aq,ar,au⟩:=c.cells;have ay:=c.row.lt.2;have az:=c.tree.lt;have ax:=c.blk.lt;have ab:gt≠d:=c.row.bk_ne c.tree dC;have a9:b≠d:=c.row.bk_ne c.blk dC;have aa:gt≠b:=Bk.ne c.tree c.blk dC;have av:=c.tree.frozen 3;have J:(aF bs f).length<=128:=by have:=dD bs u;omega
 obtain ⟨q,x⟩:=eqx bs.length;obtain ⟨r,K⟩:=eqx (bs.count true);have s:=(c.set_visits (wrap64 (j+1))).below (bR.alloc nL (.cells #[(-1:Int),(-1:Int),o0,(q:Int),(r:Int),o0,o0,b] 229));have v:Keep (fun a=>a=gt∨a=d∨a=b) w ((w.setCell ⟨gt,3,none⟩ (.int .i64 (wrap64 (j+1)))).alloc (.cells #[(-1:Int),(-1:Int),o0,(q:Int),(r:Int),o0,o0,b] 229)):=
  (ka (F:=fun a=>a=gt∨a=d∨a=b) (kf _ _) (p:=⟨gt,3,none⟩) (.inl (.inl rfl)) _).alloc _
 have g:=ke (w.setCell ⟨gt,3,none⟩ (.int .i64 (wrap64 (j+1)))) 229 #[(-1:Int),(-1:Int),o0,(q:Int),(r:Int),o0,o0,b];rw [x] at a7;rw [K] at a8;obtain ⟨a6,t⟩:=eqx ((w.setCell ⟨gt,3,none⟩ (.int .i64 (wrap64 (j+1)))).alloc (.cells #[(-1:Int),(-1:Int),o0,(q:Int),(r:Int),o0,o0,b] 229));rw [t] at s v g;have O:(w.setCell ⟨gt,3,none⟩ (.int .i64 (wrap64 (j+1)))).heap.size=w.heap.size:=by simp [World.setCell]
 rw [O] at g;have ae:a6.cell? ⟨w.heap.size,7,none⟩=some (.pointer (some b)):=(g.cell 7).trans rfl;have aw:=g.lt;obtain ⟨l,a0,ah,Y,ag,a3,Z,a4⟩:=hqq8 s v g t x I u J;clear c s v g t x K O I u J;go_enter func235,ntmps235;go_wp2_with fail;rw [Y.out];refine (vS b bs f _ l.out.blk a3.out Z.out).mono ?_;rintro e V ⟨rfl,C,k⟩;have T:=k.bk l.out.tree aa;have L:=aA l.out.row (w':=V) fun W am _ A=>k.bk A (fun e=>Bk.ne A l.out.blk dC e);have E:=a0.out.trans (k.mono (G:=fun a=>a=gt∨a=d∨a=b) fun W _ e=>.inr (.inr e));obtain ⟨y,af,z,a5,a1⟩:=hqq5 C k T L E;clear C k T L E ae;go_wp2_with fail;refine (sE gt n d m b 0 0 _ (aF bs f) V z.out a5.out y.out a4.out).mono ?_;rintro e ad ⟨rfl,o,M⟩;have U:=o.bk z.out ab;have D:=o.bk y.out a9;have H:=a1.out.trans (o.mono (G:=fun a=>a=gt∨a=d∨a=b) fun W _ e=>.inr (.inl e));obtain ⟨X,a2⟩:=hqq2 (show LeafV ad 0 gt n d m b 0 _ (aF bs f) from ⟨U,M,D⟩) H;clear U D H o M;go_wp2_with fail;go_ret2;exact ⟨rfl,⟨_,X.out⟩,a2.out⟩
def yP (F gt l bs w) (I:TreeE w F gt bs) (b:l < bs.length):
 Calls prog 213 #[gt,(l:Int)] w fun a w'=>a=.returned (.tuple #[.bool (bs.getD l false),o0])/\TreeE w' (Gw F w.heap.size) gt (aF bs l)/\Keep F w w':=by
 have al:=uY gt bs l w I.at b;have s:=I.1;obtain ⟨bm,b3⟩:=eqx bs.length;obtain ⟨a7,ai⟩:=eqx ((aF bs l).length);obtain ⟨b7,X⟩:=eqx (bs.getD l false);rw [X];have aC:=lhd X;clear X;obtain ⟨aw,D,C⟩:=hqq3 I b ai;clear I b ai b3;go_enter func213,ntmps213;go_wp2_with fail;refine al.mono ?_;rintro a w1 ⟨rfl,a0⟩;clear al;have J:=aw.out.vis a0.1;have am:Keep F w w1:=a0.2.mono fun c _ a=>by rw [a];exact s
 obtain ⟨_,H,b6,⟨r,_,_,_⟩|⟨r,q,E,bl,_,_,_,_⟩|⟨b4,ap,q,E,a9,U,ab,K,x⟩⟩:=J
 · have:=D.out;rw [r] at this;simp at this
 · have:=D.out;rw [r] at this;simp at this
 have a6:w1.cell? ⟨gt,2,none⟩=some (.int .i64 0):=(K.tree.cell 2).trans rfl;have be:=K.tree.lt;obtain ⟨z,ay,aE,a5⟩:=hqq4 K x am ap;clear K x am a0 ap b4;go_wp2_with fail;refine (aGR gt H q E a9 l b6 bs w1 z.out a5.out D.out).mono ?_;rintro a n ⟨rfl,⟨bn,k⟩,Y⟩;rw [aC.out];have ae:=ay.out.keep Y fun c g j d b _=>fun a=>by rcases a with a | a | a;subst a;rw [(aP b z.out.tree).1] at d;exact absurd d dC;subst a;obtain ⟨b9,aZ⟩:=fW z.out.row;rw [(aP b aZ).1] at d;exact absurd d dC;subst a;rw [(aP b z.out.blk).1] at d;exact absurd d dC
 have an:Keep F w n:=aE.out.trans (Y.mono fun c _ a=>by
  rcases a with rfl | rfl | rfl;exact s;exact U
  · exact ab)
 have t:=k.set_root 0;have y:Keep (fun c=>c=gt) n (n.setCell ⟨gt,2,none⟩ (.int .i64 0)):=ka (F:=fun c=>c=gt) (kf _ _) (p:=⟨gt,2,none⟩) (.inl rfl) _;have V:=ae.keep y fun c g j d b _=>fun a=>by have v:c=gt:=a;subst v;rw [(aP b k.tree).1] at d;exact absurd d dC
 have M:Keep F w (n.setCell ⟨gt,2,none⟩ (.int .i64 0)):=ka (F:=F) an (p:=⟨gt,2,none⟩) (.inl s) _;have aW:=k.tree.frozen 2;obtain ⟨aK,aL,a6,aN,aO,aQ,aR,a8,aS,aT,aU,aV⟩:=k.cells;rw [C.out] at a8;have bf:=k.tree.lt;have bd:=k.row.lt.2;have bi:gt≠q:=k.row.bk_ne k.tree dC;obtain ⟨m,L⟩:=eqx (n.setCell ⟨gt,2,none⟩ (.int .i64 0));rw [L] at t V M;have au:n.heap.size=m.heap.size:=by rw [<-L];simp [World.setCell]
 have bg:=t.tree.lt;have aX:=t.tree.frozen 2;have aM:m.cell? ⟨gt,2,none⟩=some (.int .i64 0):=(t.tree.cell 2).trans rfl;obtain ⟨a2,aI,A,a3,a4⟩:=hqq5 L au t V M;have bj:=M.size;clear k ae an Y t V M y L au aO aQ aR aS aT aU aV aN;rcases zBa a7 with aj | aj
 · subst aj;have b5:aF bs l= []:=zBk C.out;obtain ⟨a1,aa,ac,bb,x⟩:=a3.out.own;have ak:Bk (m.alloc (.cells #[o0] 3)) n.heap.size 3 #[o0]:=(by rw [aI.out];exact ke m _ _);have af:=x.keep (G:=fun _=>False) (kF (bR.alloc nL (.cells #[o0] 3))) (fun _ _ _ _ _ _ e=>e);have ad:=A.out.below (bR.alloc nL (.cells #[o0] 3));obtain ⟨aD,az,T,ax⟩:=hqq4 ak af ad ac;clear ak af x ad ac;go_wp2_with fail;rw [a2.out];refine (aDP a1 H n.heap.size 0 [true] [] _ az.out (by simp) aD.out (by simp)).mono ?_;rintro a u ⟨rfl,ag,O⟩;have Z:∀f g j,Bk (m.alloc (.cells #[o0] 3)) f g j->g≠168->g≠4->g≠3->f < m.heap.size->¬a1 f:=fun f g j b J r aY b2 b0=>by have b1:Bk m f g j:=(by have:=(Below.heap_alloc m (.cells #[o0] 3) f b2);exact this.symm.trans b);rcases ax.out f g j b0 b1 with a | a | a;exact J a;exact r a;exact aY a
   have o:=O.bk T.out.tree (Z _ _ _ T.out.tree dC dC dC A.out.tree.lt)
   have aq:=aA (w':=u) T.out.row fun f j W b=>O.bk b (Z _ _ _ b dC dC dC (by
    injection W with W;have v:q=f:=W;rw [<-v];exact A.out.row.lt.2))
   have b8:u.cell? ⟨gt,2,none⟩=some (.int .i64 0):=(o.cell 2).trans rfl;have ba:=o.frozen 2;have bh:=o.lt;have av:=o.set 2 (.int .i64 (-1));have ar:=aA (w':=u.setCell ⟨gt,2,none⟩ (.int .i64 (-1))) aq fun f j _ b=>b.far (p:=⟨gt,2,none⟩) (Bk.ne b o dC) _;have y:Keep (fun c=>c=gt) u (u.setCell ⟨gt,2,none⟩ (.int .i64 (-1))):=ka (F:=fun c=>c=gt) (kf _ _) (p:=⟨gt,2,none⟩) (.inl rfl) _;have ah:=(ag.keep y fun c g j d b _=>fun a=>by
    have v:c=gt:=a;subst v;rw [(aP b o).1] at d
    exact absurd d dC).mono (G:=Gw F w.heap.size) fun c _ e=>by
        rcases e with e | e;exact .inl (aa c e);simp at e;exact .inr oM
   have ao:Keep F w (u.setCell ⟨gt,2,none⟩ (.int .i64 (-1))):=ka (F:=F) ((a4.out.alloc _).trans (O.mono fun c _ e=>aa c e)) (p:=⟨gt,2,none⟩) (.inl s) _;obtain ⟨aJ,aH,aB,aG⟩:=hqq4 av ar ah ao;clear o aq av ar y ag ah O ao Z aK aL a6 a8 aM aX aW;go_wp2_with fail;go_ret2;rw [b5];exact ⟨rfl,⟨.inl s,H,_,.inr (.inl ⟨rfl,q,E,_,.inl U,aJ.out,aH.out,aB.out⟩)⟩,aG.out⟩
 · have bc:((a7:Int)==0)=false:=(by rw [zCb];omega);go_wp2_with fail;rw [a2.out];go_ret2;refine ⟨rfl,⟨.inl s,H,_,.inr (.inr ⟨fun a=>?_,?_,q,E,a9,.inl U,.inl ab,A.out,a3.out.mono fun c _ e=>.inl e⟩)⟩,a4.out⟩;have:=C.out;rw [a] at this;simp at this;omega;have:=C.out;have J:=dD bs D.out;have r:=a5.out;omega
def Gw.gw {F c d} (e:c<=d):∀b,Gw (Gw F c) d b->Gw F c b:=fun b a=>by
 rcases a with a | a;exact a;exact .inr oM
def aDO (gt gk d:Nat) (s t:Int) (F bs) (b:Nat) (c w) (m:TreeE w F gt bs) (f:Bk w gk 3 #[(b:Int)]) (e:Bk w d 4 #[.bool c]) (r:bs.length<=127) (q:b<=bs.length):
 Calls prog 216 #[.agg #[gt,(s:Int),(t:Int)],gk,d] w fun g w'=>g=.returned (.tuple #[])/\TreeE w' (Gw F w.heap.size) gt (aV bs b c)/\Keep F w w':=by
 have u:w.cell? gk=some (.int .i64 (b:Int)):=(f.cell 0).trans rfl;have v:w.cell? d=some (.bool c):=(e.cell 0).trans rfl;have x:=f.lt;have y:=e.lt;have p:=lhd m;clear m f e;go_enter func216,ntmps216;go_wp2_with fail;refine (yO F gt b c bs _ (p.out.below (bR.alloc nL _)) r q).mono ?_;rintro g w1 ⟨rfl,j,k⟩;have l:Keep F w w1:=(kF (bR.alloc nL _)).trans k;have n:=lhd (j.mono (G:=Gw F w.heap.size) fun z _ a=>by
  rcases a with a | a;exact .inl a
  · simp at a;exact .inr oM)
 have o:=lhd l;clear j k l;go_wp2_with fail;go_end0;exact ⟨rfl,n.out,o.out⟩
def aDT (gt gk b:Nat) (z A:Int) (e F bs) (a:Nat) (w) (p:TreeE w F gt bs) (j:Bk w gk 3 #[(a:Int)]) (k:Bk w b 4 #[e]) (y:¬F b) (o:a < bs.length):
 Calls prog 212 #[.agg #[gt,(z:Int),(A:Int)],gk,b] w fun l w'=>l=.returned (.tuple #[])/\∃w1,TreeE w1 (Gw F w.heap.size) gt (aF bs a)/\Keep F w w1/\Bk w1 b 4 #[e]/\w'=w1.setCell b (.bool (bs.getD a false)):=by
 have D:w.cell? gk=some (.int .i64 (a:Int)):=(j.cell 0).trans rfl;have J:=j.lt;have K:=k.lt;obtain ⟨C,g⟩:=eqx (bs.getD a false);rw [g];obtain ⟨s,x,u,t⟩:=hqq4 g p k o;clear p j k g o;go_enter func212,ntmps212;go_wp2_with fail;refine (yP F gt a bs _ (x.out.below (bR.alloc nL _)) t.out).mono ?_;rintro l w1 ⟨rfl,m,n⟩;rw [s.out];have f:Keep F w w1:=(kF (bR.alloc nL _)).trans n;have d:=f.bk u.out y;have E:w1.cell? b=some e:=(d.cell 0).trans rfl;have H:=d.frozen 0;have I:=d.lt;have q:=lhd (m.mono (G:=Gw F w.heap.size) fun e _ c=>by
  rcases c with c | c;exact .inl c
  · simp at c;exact .inr oM)
 obtain ⟨r,v⟩:=hqq2 f d;clear m n f d;go_wp2_with fail;go_end0;exact ⟨rfl,w1,q.out,r.out,v.out,rfl⟩
def rC {w gt a bs c} (d:TreeAt w gt bs) (b:Bk w a 180 c):gt≠a:=by
 rintro rfl;obtain ⟨g,j,⟨_,_,e⟩|⟨_,_,_,_,_,f⟩⟩:=d;exact absurd (aP e b).1 dC;exact absurd (aP f.tree b).1 dC
def aHv (a gt gk H:Nat) (S:Nat->Value) (o e C v:Int) (F bs) (m:Nat) (b w) (L:Bk w a 180 (wcells S o e)) (a5:TreeE w F gt bs) (an:¬F a) (Y:∀d,F d->d < w.heap.size) (x:Bk w gk 3 #[(m:Int)]) (a1:Bk w H 4 #[.bool b]) (av:bs.length<=127) (au:m<=bs.length):
 Calls prog 151 #[a,.agg #[gt,(C:Int),(v:Int)],.func (.func 216) #[] #[gk,H]] w fun k w'=>k=.returned (.tuple #[])/\
  TreeE w' (Gw F w.heap.size) gt (aV bs m b)/\Keep (fun d=>F d∨d=a) w w'/\∃ax,Bk w' a 180 (wcells S o ax):=by
 obtain ⟨aa,J⟩:=eqx (Obj.cells #[gt,(C:Int),(v:Int)] 183);have Z:=(kh w.heap.size w).alloc nL aa;have K:=ke w 183 #[gt,(C:Int),(v:Int)];rw [J] at K;have aJ:=L.lt;obtain ⟨U,O,M,V,E,T,af,ac⟩:=hqq8 a5 x a1 L Z K J Y;clear a5 x a1 L Z K J Y;go_enter func151,ntmps151;go_wp2_with fail;rw [af.out];refine (aDO gt gk H C v F bs m b _ (U.out.below E.out) (O.out.alloc _) (M.out.alloc _) av au).mono ?_;rintro k r ⟨rfl,a6,y⟩;have A:=y.bk (V.out.alloc aa) an;have z:=y.bk T.out (fun f=>by have:=ac.out _ f;omega);have a4:Keep F w r:=(kF E.out).trans y;have u:TreeE r (Gw F w.heap.size) gt (aV bs m b):=a6.mono fun d _ f=>by rcases f with f | f;exact .inl f;simp at f;exact .inr oM
 obtain ⟨n,a8⟩:=u.at.visits;have aw:=u.at.lt;have aI:=z.lt;have aq:=Bk.ne A z dC;have ar:=rC u.at A;obtain ⟨W,ag,ae,ai,aj⟩:=hqq5 A z a4 u a8;clear A z a4 u a8 a6 y E U O M V T;go_wp2_with fail;refine wp_region_any kR ?_;refine aY [9,10,11,12,13,14,15,16,17,18] (fun b=>b=a) 10 [3,10] (fun q=>Bk q a 180 (wcells S o e)) (fun _ q=>Bk q a 180 (wcells S o (IntKind.i64.wrap (e+n)))) [is a,is a,is (.pointer (some ⟨a,10,none⟩)),is (.int .i64 e),is w.heap.size,is gt,is (.int .i64 n),is (.int .i64 (IntKind.i64.wrap (e+n))),is a,is (.pointer (some ⟨a,10,none⟩)),cJ] _ _ rfl kR kR (W.out) (fun q aN l _ ap=>kg l ap l.lt) (fun _ _ _ l m=>kg l m l.lt) tA0 ?_ ?_
 · refine aK ?_;refine pH3 0 (.pointer (some a)) ?_;refine pV3 0 9 ?_;refine pV3 1 10 ?_;refine sC3 (fun _ g _ I _ _ _ j _ _ _ s=>?_) ?_
   · have t:=I rfl;have aA:_=_:=j 2 11 kR rfl;have al:g.cell? ⟨a,10,none⟩=some (.int .i64 e):=(t.cell 10).trans (bI _ _ _).2.2.2.2.2.2.2.2.2.2;go_simp;exact kq s rfl
   refine pH3 4 (.pointer (some w.heap.size)) ?_;refine pL3 4 13 (fun g c=>have c:Keep (fun b=>b=a) r g:=kD c;(((c.bk ag.out (fun l=>aq (show w.heap.size=a from l).symm)).cell 0).trans rfl:g.cell? w.heap.size=some (.pointer (some gt)))) ?_;refine sC3 (fun _ g c _ _ _ _ j _ _ _ s=>?_) ?_
   · replace c:Keep (fun b=>b=a) r g:=kD c;have aB:_=_:=j 5 14 kR rfl;go_simp;refine (fZ gt n g ((c.cell aw ar).trans aj.out)).mono ?_;rintro k aO ⟨rfl,ao⟩;exact s _ _ (aE ao) rfl
   refine pW3 3 12 6 15 ?_;refine pV3 0 9 ?_;refine pV3 8 17 ?_;refine sC3 (fun _ g _ I _ _ _ j _ _ _ s=>?_) ?_
   · have t:=I rfl;have aF:_=_:=j 9 18 kR rfl;have aD:_=_:=j 7 16 kR rfl;have al:g.cell? ⟨a,10,none⟩=some (.int .i64 e):=(t.cell 10).trans (bI _ _ _).2.2.2.2.2.2.2.2.2.2;have aH:=t.frozen 10;go_simp;refine s (.bool true) _ (aT (ka (F:=fun b=>b=a) (kf _ _) (p:=⟨a,10,none⟩) (.inl rfl) _)) ?_;have X:=t.set 10 (.int .i64 (IntKind.i64.wrap (e+n)));rw [cR] at X;exact X
   exact aC
 · intro aG D c j a0;replace c:Keep (fun b=>b=a) r D:=kD c;obtain ⟨aM,ab⟩:∃ay,(fun _ q=>Bk q a 180 (wcells S o (IntKind.i64.wrap (e+n)))) ay D:=a0 10 dC;simp only [zqq];clear j a0;have a9:Bk D a 180 (wcells S o (IntKind.i64.wrap (e+n))):=ab;have a7:=ai.out.keep c fun d aL az a2 x _=>fun k=>by have am:d=a:=k;subst am;rw [(aP x W.out).1] at a2;exact absurd a2 dC
   have a3:Keep (fun d=>F d∨d=a) w D:=(ae.out.mono fun d _ f=>.inl f).trans (c.mono fun d _ k=>.inr k);obtain ⟨ak,ah,ad⟩:=hqq3 a9 a7 a3;clear ab a9 a7 a3 c;go_wp2_with fail;go_end0;exact ⟨rfl,ah.out,ad.out,_,ak.out⟩
def aHx (a gt gk b:Nat) (S:Nat->Value) (v l I n:Int) (c F bs) (k:Nat) (w) (H:Bk w a 180 (wcells S v l)) (ae:TreeE w F gt bs) (aJ:¬F a) (aI:¬F b) (a5:∀c,F c->c < w.heap.size) (y:Bk w gk 3 #[(k:Int)]) (E:Bk w b 4 #[c]) (aN:∀e,F e->e≠b) (ab:k < bs.length):
 Calls prog 151 #[a,.agg #[gt,(I:Int),(n:Int)],.func (.func 212) #[] #[gk,b]] w fun j w'=>j=.returned (.tuple #[])/\
  TreeE w' (Gw F w.heap.size) gt (aF bs k)/\Keep (fun c=>F c∨c=a∨c=b) w w'/\Bk w' b 4 #[.bool (bs.getD k false)]/\∃aU,Bk w' a 180 (wcells S v aU):=by
 obtain ⟨t,O⟩:=eqx (bs.getD k false);rw [O];have ap:=lhd O;clear O;obtain ⟨am,V⟩:=eqx (Obj.cells #[gt,(I:Int),(n:Int)] 183);have a7:=(kh w.heap.size w).alloc nL am;have W:=ke w 183 #[gt,(I:Int),(n:Int)];rw [V] at W;have b4:=H.lt;have b5:=E.lt;have al:=Bk.ne E H dC;obtain ⟨a0,X,Y,a1,K,Z,ax,ao,au⟩:=hqq9 ae y E H a7 W V a5 ab;clear ae y E H a7 W V a5 ab;go_enter func151,ntmps151;go_wp2_with fail;rw [ax.out];refine (aDT gt gk b I n c F bs k _ (a0.out.below K.out) (X.out.alloc _) (Y.out.alloc _) aI au.out).mono ?_;rintro j s ⟨rfl,w1,af,D,ac,rfl⟩;rw [ap.out];have aj:=D.bk (a1.out.alloc am) aJ;have C:=aj.far (p:=b) (fun g=>al g.symm) (.bool t);have A:=(D.bk Z.out (fun d=>by have:=ao.out _ d;omega)).far (p:=b) (fun g=>absurd (show w.heap.size=b from g) oM) (.bool t);have U:=ac.set 0 (.bool t);have T:Keep (fun e=>F e∨e=b) w (w1.setCell b (.bool t)):=ka (F:=fun e=>F e∨e=b) (((kF K.out).trans D).mono fun e _ d=>.inl d) (p:=b) (.inl (.inr rfl)) _;have ah:TreeE w1 (Gw F w.heap.size) gt (aF bs k):=af.mono fun c _ d=>by rcases d with d | d;exact .inl d;simp at d;exact .inr oM
 have u:TreeE (w1.setCell b (.bool t)) (Gw F w.heap.size) gt (aF bs k):=ah.keep (G:=fun e=>e=b) (ka (F:=fun e=>e=b) (kf _ _) (p:=b) (.inl rfl) _) fun e aS aH _ y d=>fun j=>by rcases d with d | d;exact aN e d j;have a3:e=b:=j;omega
 obtain ⟨L,a6⟩:=eqx (w1.setCell b (.bool t));rw [a6] at C A U T u⊢;obtain ⟨r,ai⟩:=u.at.visits;have aR:=u.at.lt;have b3:=A.lt;have aO:=Bk.ne C A dC;have aQ:=rC u.at C;obtain ⟨a2,ay,av,ar,aA,aB⟩:=hqq6 C A U T u ai;clear C A U T u ai af D K a0 X Y a1 Z a6 ah aj ac;go_wp2_with fail;refine wp_region_any kR ?_;refine aY [9,10,11,12,13,14,15,16,17,18] (fun m=>m=a) 10 [3,10] (fun s=>Bk s a 180 (wcells S v l)) (fun _ s=>Bk s a 180 (wcells S v (IntKind.i64.wrap (l+r)))) [is a,is a,is (.pointer (some ⟨a,10,none⟩)),is (.int .i64 l),is w.heap.size,is gt,is (.int .i64 r),is (.int .i64 (IntKind.i64.wrap (l+r))),is a,is (.pointer (some ⟨a,10,none⟩)),cJ] _ _ rfl kR kR (a2.out) (fun s b7 g _ aM=>kg g aM g.lt) (fun _ _ _ g k=>kg g k g.lt) tA0 ?_ ?_
 · refine aK ?_;refine pH3 0 (.pointer (some a)) ?_;refine pV3 0 9 ?_;refine pV3 1 10 ?_;refine sC3 (fun _ o _ M _ _ _ q _ _ _ x=>?_) ?_
   · have z:=M rfl;have aW:_=_:=q 2 11 kR rfl;have aG:o.cell? ⟨a,10,none⟩=some (.int .i64 l):=(z.cell 10).trans (bI _ _ _).2.2.2.2.2.2.2.2.2.2;go_simp;exact kq x rfl
   refine pH3 4 (.pointer (some w.heap.size)) ?_;refine pL3 4 13 (fun o f=>have f:Keep (fun m=>m=a) L o:=kD f;(((f.bk ay.out (fun g=>aO (show w.heap.size=a from g).symm)).cell 0).trans rfl:o.cell? w.heap.size=some (.pointer (some gt)))) ?_;refine sC3 (fun _ o f _ _ _ _ q _ _ _ x=>?_) ?_
   · replace f:Keep (fun m=>m=a) L o:=kD f;have aX:_=_:=q 5 14 kR rfl;go_simp;refine (fZ gt r o ((f.cell aR aQ).trans aB.out)).mono ?_;rintro j b8 ⟨rfl,aL⟩;exact x _ _ (aE aL) rfl
   refine pW3 3 12 6 15 ?_;refine pV3 0 9 ?_;refine pV3 8 17 ?_;refine sC3 (fun _ o _ M _ _ _ q _ _ _ x=>?_) ?_
   · have z:=M rfl;have b0:_=_:=q 9 18 kR rfl;have aZ:_=_:=q 7 16 kR rfl;have aG:o.cell? ⟨a,10,none⟩=some (.int .i64 l):=(z.cell 10).trans (bI _ _ _).2.2.2.2.2.2.2.2.2.2;have b2:=z.frozen 10;go_simp;refine x (.bool true) _ (aT (ka (F:=fun m=>m=a) (kf _ _) (p:=⟨a,10,none⟩) (.inl rfl) _)) ?_;have a4:=z.set 10 (.int .i64 (IntKind.i64.wrap (l+r)));rw [cR] at a4;exact a4
   exact aC
 · intro b1 J f q a8;replace f:Keep (fun m=>m=a) L J:=kD f;obtain ⟨b6,an⟩:∃aV,(fun _ s=>Bk s a 180 (wcells S v (IntKind.i64.wrap (l+r)))) aV J:=a8 10 dC;simp only [zqq];clear q a8;have ak:Bk J a 180 (wcells S v (IntKind.i64.wrap (l+r))):=an;have ag:=aA.out.keep f fun c aS aH a9 y _=>fun j=>by have a3:c=a:=j;subst a3;rw [(aP y a2.out).1] at a9;exact absurd a9 dC
   have ad:=f.bk av.out al;have aa:Keep (fun c=>F c∨c=a∨c=b) w J:=(ar.out.mono (G:=fun c=>F c∨c=a∨c=b) fun c _ d=>by
    rcases d with d | d;exact .inl d
    · exact .inr (.inr d)).trans (f.mono fun c _ j=>.inr (.inl j))
   obtain ⟨aD,az,aw,aq⟩:=hqq4 ak ag ad aa;clear an ak ag aa f ad;go_wp2_with fail;go_end0;exact ⟨rfl,az.out,aq.out,aw.out,_,aD.out⟩
def aDG (a:Nat) (w) (o:a<=2147483648):
 Calls prog 44 #[(a:Int),()] w fun d w'=>∃e k,d=.returned (.tuple #[.pointer (some ⟨e,0,none⟩),o0])/\PermAt w' w.heap.size e k (.slice none 0 0) (.slice none 0 0) (.slice none 0 0) (.slice none 0 0) a a [] [] [] []/\Below w.heap.size w w':=by
 have m:¬((a:Int) < 0):=oM;have n:¬((a:Int) > 2147483648):=oM;go_enter func44,ntmps44;go_wp2_with fail;refine (tK _).mono ?_;rintro d w1 ⟨rfl,b,f⟩;obtain ⟨j,c⟩:=hqq2 b f;have p:=b.lt;clear b f;go_wp2_with fail;refine wp_loop_rounds 1 ?_;rw [rounds_succ];go_wp2_with fail;go_ret2;have g:=c.out.size;exact ⟨_,_,rfl,⟨ke _ _ _,kj _ _ _ _,kj _ _ _ _,j.out.alloc _,kj _ _ _ _,kj _ _ _ _,.inl rfl,fun q l=>(by cases l),⟨g,zAs _⟩⟩,c.out.alloc g _⟩
def cW (a:List Nat) (c b:Nat):List (Nat×Nat):=((List.range b).filter fun i=>a.getD i 0 % c==0).map fun i=>(i,a.getD i 0)
def aEj (b c a):cW b c (a+1)=if b.getD a 0 % c=0 then cW b c a++ [(a,b.getD a 0)] else cW b c a:=by
 unfold cW;rw [List.range_succ,List.filter_append,zAz];by_cases d:b.getD a 0 % c=0
 · rw [zBx d];simp only [List.filter_cons,d,beq_self_eq_true,if_true,List.filter_nil,List.map_cons,List.map_nil]
 · rw [zBw d];have:(b.getD a 0 % c==0)=false:=(by simpa using d);simp only [List.filter_cons,this,Bool.false_eq_true,if_false,List.filter_nil,List.map_nil,List.append_nil]
def oO {d f c a} (b:a∈cW d f c):a.1 < c/\a.2=d.getD a.1 0:=by
 unfold cW at b;obtain ⟨i,e,rfl⟩:=zAy.1 b;have:=(zCv.1 e).1;exact ⟨by simpa using this,rfl⟩
def rK (e d c):(cW e d c).Pairwise (fun a b=>a.1 < b.1):=by
 unfold cW;rw [List.pairwise_map];exact List.Pairwise.filter _ List.pairwise_lt_range
def aCB {C a} (b:a < C.length):(aD C a,aI C a)∈C:=by
 unfold aD aI;rw [zAb,zAa b];exact zBj b
def aCA {a} (g:a.Pairwise (fun b c=>b.1 < c.1)):(List.range a.length).Pairwise (fun b c=>aD a b < aD a c):=by
 rw [zAr];intro i f j l k;have d:i < a.length:=by simpa using j
 have e:f < a.length:=by simpa using l
 have:=zAr.1 g i f d e k;simp only [List.getElem_range];unfold aD;rw [zAb,zAb,zAa d,zAa e];exact this
def Apt.next2 {j f c N} (k:Apt j c) (m:f.ownBlock=j.ownBlock∨∃e,f.ownBlock=some e/\N<=e) (l:∀a,c=some a->a.block < N):Apt f c:=by
 intro a g b;rcases m with d |⟨e,d,n⟩;exact k a g (d.symm.trans b);rw [d] at b;injection b with b;have:=l a g;omega
def PermAt.foot {w B e d f g j o R P m k n l} (b:PermAt w B e d f g j o R P m k n l) {c} (a:PF e d f g j c):B<=c:=by
 rcases a with rfl | rfl | a | a | a;exact b.lo.1;exact b.lo.2;exact (b.lrow.lt _ a).1;exact (b.orow.lt _ a).1;exact (b.trow.lt _ a).1
def PermAt.keep {F w w' B m l r s t q R P n j p k} (b:PermAt w B m l r s t q R P n j p k) (f:Keep F w w') (e:∀d o g,F d->Bk w d o g->o∉ [120,114,3,168,4]):PermAt w' B m l r s t q R P n j p k:=
 ⟨f.bk b.blk (fun a=>e _ _ _ a b.blk dC),iB b.lrow f (fun d g a c=>e _ _ _ a c dC),iB b.orow f (fun d g a c=>e _ _ _ a c dC),f.bk b.ar (fun a=>e _ _ _ a b.ar dC),iB b.trow f (fun d g a c=>e _ _ _ a c dC),iB b.frow f (fun d g a c=>e _ _ _ a c dC),b.apart,b.lt,b.lo⟩
structure LvInv (w2:World) (B1 B3 gl gk gp ga n rate:Nat) (A3:Option Addr) (c3:Nat) (rs:List Nat) (k:Nat) (vl vo vt:Value) (tk:List Bool) (wr:World):Prop where
 perm:PermAt wr B1 gp ga vl vo vt (.slice none 0 0) n n (List.range (cW rs rate k).length) (cW rs rate k) tk []
 len:tk.length=(cW rs rate k).length
 apt:Apt vo A3
 row:wr.ownsRow B3 3 1 (.slice A3 n c3) n (rs.map sv)
 blk:Bk wr gl 89 #[gk,gp,(rate:Int),o0]
 below:Below w2.heap.size w2 wr
structure LiveAt (w:World) (Bw gl gk gp ga:Nat) (vl vo vt:Value) (B n rate:Nat) (L:List Nat) (C:List (Nat×Nat)) (tk:List Bool):Prop where
 blk:Bk w gl 89 #[gk,gp,(rate:Int),o0]
 walk:WalkAt w Bw gk L
 perm:PermAt w B gp ga vl vo vt (.slice none 0 0) n n (List.range C.length) C tk []
end
section
open Go.RowKit Go
section
variable {P : Program} {ops : Array Oper} {Q : Exit -> Act -> World -> Prop} {md : Region.Mode}
def uK (b s d) (S:Nat->World->World->Prop) (k:Nat->World->Prop) (e f n) (K:(ops.toList.take b).filterMap (·.dst)=s) (x:b<=ops.size) (T:iT md ops f.tmps.size=true) (a0:((List.range ops.size).all fun p=>decide (p < b)||(List.range b).all fun i=>upB md ops ops.size p i)=true) (D:d n) (I:∀i,k i n) (C:∀a w w',a < b->d w->S a w w'->d w') (H:∀i a w w',a < b->i≠a->upB md ops ops.size a i=false->k i w->d w->S a w w'->k i w') (W:∀i a c w w',a < b->i≠a->uD md ops i a=false->e i c w->d w->S a w w'->e i c w') (X:∀a q,a < b->ops[a]?=some q->cX P ops Q md d S k e f a q) (L:∀(v:Operand->Value) w t,d w->(∀i l,i < b->((ops[i]?).bind (·.dst))=some l->e i (v (.tmp l)) w)->(∀i,i < b->∃c,e i c w)->wpAny P md ops Q (ops.size - b+t) (bX b ops.size) (dK v s f) w):
 wpAny P md ops Q ops.size (Array.replicate ops.size false) f n:=by
 refine qF b d S k e f n x T a0 D I C H (fun i a c w w' g m A _=>W i a c w w' g m A) X fun r w t E Y J U y=>?_;have g:=L r.eval w t E (fun i l o j=>by
  cases u:ops[i]? with
  | none=>rw [u] at j;cases j
  | some q=>
    rw [u] at j;obtain ⟨c,g,m⟩:=y i q o u;have:=g l j;change e i (r.tmps.getD l undef) w;rw [this];exact m) (fun i o=>by
  obtain ⟨c,_,m⟩:=y i _ o (zAq (zAl o x));exact ⟨c,m⟩)
 rw [<-mE r f s Y J fun a1 Z=>U a1 fun p z M V j=>Z ?_] at g;exact g;rw [<-K];refine List.mem_filterMap.2 ⟨z,?_,j⟩;have O:(ops.toList.take b)[p]?=some z:=(by rw [zBs,zBx M,Array.getElem?_toList];exact V);exact zAd O
end
def VFB (B:Nat) (F:Nat->Prop) (w w':World):Prop:=VisF F w w'/\Keep (fun a=>F a∨B<=a) w w'
def fD {B F w w'} (a:VFB B F w.drew w'):VFB B F w w':=⟨⟨a.1.os,a.1.tape,a.1.output,a.1.size,a.1.block⟩,⟨a.2.os,a.2.tape,a.2.output,a.2.size,a.2.block⟩⟩
section
variable {B : Nat} {F : Nat -> Prop} {w w1 w' : World}
def VFB.of_vb (a:VB B w w'):VFB B F w w':=⟨VisF.of_vis a.1,a.2.mono fun _ _ b=>.inr b⟩
def VFB.trans (a:VFB B F w w1) (b:VFB B F w1 w'):VFB B F w w':=⟨a.1.trans b.1,a.2.trans b.2⟩
def VFB.put (b:VFB B F w w1) {p} (c:F p.block∨w.heap.size<=p.block) (a):VFB B F w (w1.setCell p a):=⟨VisF.put b.1 c a,b.2.setCell (c.elim (fun d=>.inl (.inl d)) .inr) a⟩
def VFB.wider {G} (b:VFB B F w w') (d:∀a,F a->G a):VFB B G w w':=⟨⟨b.1.os,b.1.tape,b.1.output,b.1.size,fun a e f=>b.1.block a e (fun c=>f (d a c))⟩,b.2.mono fun a _ c=>c.elim (fun c=>.inl (d a c)) .inr⟩
def VFB.to_vb (c:VFB B F w w') (d:∀a,a < w.heap.size->¬F a):VB B w w':=⟨c.1.to_vis d,c.2.mono fun a e b=>b.elim (fun b=>absurd b (d a e)) id⟩
end
def aDj (B:Nat) (F:Nat->Prop) (a b:Nat) (w w':World):Prop:=(b=a->VFB B F w w')/\(b≠a->VB B w w')
def aAt {B F a d w w'} (b:aDj B F a d w w'):VFB B F w w':=by
 by_cases c:d=a;exact b.1 c;exact VFB.of_vb (b.2 c)
def aG {B F b c w w'} (a:VB B w w'):aDj B F b c w w':=⟨fun _=>VFB.of_vb a,fun _=>a⟩
def kK {B F a w w'} (c:VFB B F w w'):aDj B F a a w w':=⟨fun _=>c,fun b=>absurd rfl b⟩
def cB {P:Program} {ops:Array Oper} {Q:Exit->Act->World->Prop} {md:Region.Mode} (B b:Nat) (p:List Nat) (F:Nat->Prop) (a:Nat) (r:List Nat) (n:World->Prop) (m:Value->World->Prop) (l:List (Value->World->Prop)) (g:Act) (d:World)
 (E:(ops.toList.take b).filterMap (·.dst)=p) (J:b<=ops.size) (I:iT md ops g.tmps.size=true) (U:((List.range ops.size).all fun c=>decide (c < b)||(List.range b).all fun i=>upB md ops ops.size c i)=true)
 (M:(r.all fun i=>i==a||upB md ops ops.size a i)=true)
 (L:n d) (K:∀w w',n w->VFB B F d w->VB B w w'->n w') (D:aHh (VB B) m) (O:∀W∈l,aHh (VFB B F) W)
 (T:∀e y,e < b->ops[e]?=some y->cX P ops Q md (VFB B F d) (aDj B F a) (fun i w=>r.contains i=true->n w) (VsJ a m l) g e y)
 (H:∀(t:Operand->Value) w f,VFB B F d w->(∀i s,i < b->((ops[i]?).bind (·.dst))=some s->VsJ a m l i (t (.tmp s)) w)->(∀i,i < b->∃o,VsJ a m l i o w)->wpAny P md ops Q (ops.size - b+f) (bX b ops.size) (dK t p g) w):
 wpAny P md ops Q ops.size (Array.replicate ops.size false) g d:=by
 refine uK b p (VFB B F d) (aDj B F a) (fun i w=>r.contains i=true->n w) (VsJ a m l) g d E J I U (VFB.of_vb vR) (fun _ _=>L) (fun e w w' _ A c=>A.trans (aAt c)) (fun i e w w' _ q V j C c v=>?_) (fun i e o w w' _ q _ k _ c=>?_) T H;by_cases x:e=a;exfalso;subst x;have u:=zBf.1 M i (by simpa using v);simp only [V,Bool.or_false,zCq] at u;exact q u;exact K w w' (j v) C (c.2 x);unfold VsJ at k⊢;by_cases j:i=a;rw [zBx j] at k⊢;exact D o w w' k (c.2 fun z=>q (j.trans z.symm));rw [zBw j] at k⊢;exact cS O i o w w' k (aAt c)
end
section
open Go.RowKit Go.Shelf
def ShelfRow.same {w w' B n e k l} (o:ShelfRow w B n e k l) (j:∀a d b,Bk w a d b->Bk w' a d b):ShelfRow w' B n e k l:=by
 obtain ⟨G,p,f⟩:=o;exact ⟨G,aA p fun a b _ c=>j _ _ _ c,fun m g=>⟨(f m g).1,(f m g).2.same fun a d b _ c=>j _ _ _ c⟩⟩
def WalkAt.same {w w' B gk b} (g:WalkAt w B gk b) (a:∀c e d,Bk w c e d->Bk w' c e d):WalkAt w' B gk b:=by
 obtain ⟨f,gt,k,⟨j,S,q,l,m⟩,n⟩:=g;exact ⟨f,gt,a _ _ _ k,⟨j,S,q,a _ _ _ l,fun p o=>(m p o).same a⟩,a _ _ _ n⟩
def LvW (w:World) (B b:Nat) (a:List Nat):Prop:=∃gk c d e,Bk w b 89 #[.pointer (some ⟨gk,0,none⟩),c,d,e]/\WalkAt w B gk a
def LvW.vis {w w' B b a} (d:LvW w B b a) (c:Vis w w'):LvW w' B b a:=by
 obtain ⟨gk,g,j,k,e,f⟩:=d;exact ⟨gk,g,j,k,c.bk e dC dC,f.vis c⟩
def LvW.same {w w' B d a} (g:LvW w B d a) (e:∀b f c,Bk w b f c->Bk w' b f c):LvW w' B d a:=by
 obtain ⟨gk,l,m,n,j,k⟩:=g;exact ⟨gk,l,m,n,e _ _ _ j,k.same e⟩
def LvW.lt {w B a b} (c:LvW w B a b):a < w.heap.size:=by
 obtain ⟨gk,f,g,j,d,e⟩:=c;exact d.lt
def ShelfRow.sameT {w w' B n e k l} (o:ShelfRow w B n e k l) (j:∀a c b,c≠3->Bk w a c b->Bk w' a c b):ShelfRow w' B n e k l:=by
 obtain ⟨G,p,f⟩:=o;exact ⟨G,aA p fun a b _ d=>j _ _ _ dC d,fun m g=>⟨(f m g).1,(f m g).2.same fun a c b q d=>j _ _ _ (by rintro rfl;revert q;decide) d⟩⟩
def LvW.sameT {w w' B f c} (j:LvW w B f c) (a:∀d b e,b≠3->Bk w d b e->Bk w' d b e):LvW w' B f c:=by
 obtain ⟨gk,s,t,u,k,g,gt,l,⟨p,S,v,m,n⟩,o⟩:=j;exact ⟨gk,s,t,u,a _ _ _ dC k,g,gt,a _ _ _ dC l,⟨p,S,v,a _ _ _ dC m,fun r q=>(n r q).sameT a⟩,a _ _ _ dC o⟩
def LvW.visI {w w' B n b d y m} (q:LvW w B n m) (f:VisF (fun a=>a=b) w w') (r:Bk w b 3 #[d]) (s:Bk w' b 3 #[y]):LvW w' B n m:=by
 have p:Bk (w'.setCell b d) b 3 #[d]:=s.set 0 d;have j:∀a,a≠b->(w'.setCell b d).heap[a]?=w'.heap[a]?:=fun a u=>heap_setCell_other w' ⟨b,0,none⟩ a d u;have x:Vis w (w'.setCell b d):=by refine ⟨f.os,f.tape,f.output,by simpa [World.setCell] using f.size,fun a t _=>?_⟩;by_cases c:a=b;subst c;exact .inl (p.trans r.symm);rcases f.block a t c with e |⟨g,l,e,k⟩|⟨g,l,e,k⟩;exact .inl ((j a c).trans e);exact .inr (.inl ⟨g,l,e,(j a c).trans k⟩);exact .inr (.inr ⟨g,l,e,(j a c).trans k⟩)
 refine (q.vis x).sameT fun a z g v o=>?_;have c:a≠b:=fun c=>by subst c;exact v (aP o p).1
 exact (j a c).symm.trans o
def LiveAt.lvw {w a c gk g f m n o B j k b e l} (d:LiveAt w a c gk g f m n o B j k b e l):LvW w a c b:=⟨gk,_,_,_,d.blk,d.walk⟩
def cD (B d b a w) (f:LvW w B d b) (j:b.length=a+1) (m:a<=1000000):
 Calls prog 26 #[d] w fun c w'=>c=.returned (.int .i64 (a:Int))/\w=w':=by
 obtain ⟨gk,n,o,p,e,g⟩:=f;have k:=e.cell 0;have l:IntKind.i64.wrap (((a+1:Nat):Int) - 1)=(a:Int):=by rw [wI0];omega
 clear e;go_enter func26,ntmps26;go_wp2_with fail;refine (lJ B gk b _ g).mono ?_;rintro c w' ⟨rfl,rfl⟩;rw [j];go_wp2_with fail;go_ret;exact ⟨fR oM,rfl⟩
def aGD (a b) {c d} (e:c<=d):cL a b c<=cL a b d:=by
 unfold cL;have:=(List.take_sublist_take_left (l:=a) e).count_le b;omega
def wI (b a e):cL b a e<=b.length:=by
 unfold cL;have k:=(List.take_sublist e b).count_le a;have l:b.countP (fun c=>decide (c < a))+b.count a<=b.length:=by
  induction b with
  | nil=>simp
  | cons c j g=>
    have:=g ((List.take_sublist e j).count_le a);rw [zBn,List.count_cons];by_cases d:c < a;have:¬c=a:=oM;simp [d,this];omega;by_cases f:c=a;simp [d,f];omega;simp [d,f];omega
 omega
end
section
open Go.RowKit
noncomputable def ltP (a:List Nat) (b c:Nat):Bool:=@decide (sufLt a c b) (Classical.propDecidable _)
def rX (a b c):ltP a b c=true↔sufLt a c b:=by
 unfold ltP;exact @decide_eq_true_iff _ (Classical.propDecidable _)
def aAF {b a} (g:IsSuf b a) (i) (k:i < a.length):a.countP (ltP b a[i])=i:=by
 have n:(a.take i).countP (ltP b a[i])=i:=by rw [List.countP_eq_length.2 fun m f=>?_];rw [zAj];omega;obtain ⟨d,e,rfl⟩:=zBo.1 f;rw [zAj] at e;rw [List.getElem_take,rX];exact zAr.1 g.sorted d i oM k oM
 have o:(a.drop i).countP (ltP b a[i])=0:=List.countP_eq_zero.2 fun m f c=>by obtain ⟨d,e,rfl⟩:=zBo.1 f;rw [zAw] at e;rw [List.getElem_drop,rX] at c;rcases zBa d with j | j;subst j;exact sufLt.asymm c c;exact sufLt.asymm c (zAr.1 g.sorted i (i+d) k oM oM)
 have l:a.countP (ltP b a[i])=(a.take i++a.drop i).countP (ltP b a[i]):=congrArg (List.countP _) (zAu i a).symm;rw [l,List.countP_append];omega
def aCi {a c} (d:IsSuf a c) (P:Nat->Bool) (j:∀f g,sufLt a f g->P g=true->P f=true) (e):((aH a c).take (c.countP P)).count e=(List.range a.length).countP (fun b=>decide (bM a b=e)&&P b):=by
 rw [aH,<-List.map_take,tN d.sorted j,<-d.count,List.count_eq_countP,List.countP_map,List.countP_filter];refine List.countP_congr fun b _=>?_;simp [Function.comp,and_comm]
def lf {a e g} (f:IsSuf a e) (o:EndOk a g) {i m b} (q:i < e.length) (z:m < e.length) (y:e[i]=b+1) (A:e[m]=b):cL (aH a e) (a.getD b 0) i=m:=by
 have j:=o.len;have C:b < g:=by have:=f.lt (zBj q);omega
 have D:=o.pos b C;obtain ⟨d,r⟩:=eqx (a.getD b 0);rw [r] at D⊢;have p:=aAF f i q;have n:=aAF f m z;rw [y] at p;rw [A] at n;have s:=aCi f (ltP a (b+1)) (fun c J E u=>by rw [rX] at u⊢;exact E.trans u) d;rw [p] at s;rw [f.count] at n;unfold cL;rw [s];have v:(aH a e).countP (fun c=>decide (c < d))=(List.range (g+1)).countP (fun b=>decide (a.getD b 0 < d)):=by
  rw [aH,List.countP_map,f.count,j];refine gZ _ _ ?_ fun b H=>?_
  · show decide (bM a 0 < d)=_;rw [bT oM,j,zBb]
  · show decide (bM a (b+1) < d)=_;rw [bE oM]
 have x:(List.range a.length).countP (fun c=>decide (bM a c=d)&&ltP a (b+1) c)=(List.range (g+1)).countP (fun c=>decide (a.getD c 0=d)&&ltP a (b+1) (c+1)):=by
  rw [j];refine gZ _ _ ?_ fun c t=>?_;show (decide (bM a 0=d)&&_)=(decide (a.getD g 0=d)&&_);rw [bT oM,j,zBb,o.last];have:decide (0=d)=false:=(by simp;omega);rw [this];rfl
  · show (decide (bM a (c+1)=d)&&_)=_;rw [bE oM]
 rw [v,x,<-uA,<-n,j];refine List.countP_congr fun c t=>?_;have I:c < g+1:=(by simpa using t);rw [rX,iW,fH (by omega:c < a.length),fH (by omega:b < a.length),r];simp only [Bool.or_eq_true,zBd,zCa,rX];constructor;rintro (k |⟨k,l⟩);exact .inl oM;exact .inr ⟨by omega,l⟩;rintro (k |⟨k,l⟩);exact .inl oM;exact .inr ⟨by omega,l⟩;intro c _;simp only [zBd,zCa];rintro ⟨k,l,_⟩;omega
def sA {a c d} (e:EndOk a d) {i b} (f:i < c.length) (g:c[i]=b+1) (k:b < d):(aH a c)[i]'(by rw [bW];exact f)=a.getD b 0:=by
 have j:=e.len;unfold aH;rw [List.getElem_map,g,bE oM]
def IsSuf.row {d b} (f:IsSuf d b) {p} (g:p < d.length):∃a,∃c:a < b.length,b[a]=p:=by
 obtain ⟨a,c,e⟩:=zBo.1 (f.mem g);exact ⟨a,c,e⟩
def aBw (a b c) (e:b < a.length):(aL a c (bG a[b] c))[gF a b a[b] c]?=some (hQ a[b] c):=by
 unfold aL gF;have d:a=a.take b++a[b]::a.drop (b+1):=by rw [<-zAx e,zAu]
 generalize f:a[b]=s at d⊢;generalize a.take b=A at d⊢;rw [d,List.filter_append,List.filter_cons,zBx (by simp),zAz,List.countP_eq_length_filter,zAo (by simp)];simp
def eL (c d a b):aL (c++d) a b=aL c a b++aL d a b:=by
 unfold aL;rw [List.filter_append,zAz]
def lH (c d a b):aL (c::d) a b=if bG c a=b then hQ c a::aL d a b else aL d a b:=by
 unfold aL;rw [List.filter_cons];by_cases e:bG c a=b
 · simp [e]
 · simp [e]
def sN (a d b c):aL a b c=aL (a.take d) b c++aL (a.drop d) b c:=by
 rw [<-eL,zAu]
def aAK (b c d a):(aL (b.take c) a (bG d a)).length=gF b c d a:=by
 rw [jM];rfl
def aE4 (c d b a):aL (aV c d b) a (bG b a)=aV (aL c a (bG b a)) (gF c d b a) (hQ b a):=by
 have e:=aAK c d b a;unfold aV;rw [eL,lH,zBx rfl]
 conv=>rhs;rw [sN c d a (bG b a)]
 rw [<-e,List.take_left,List.drop_left]
def zS (c f d a b) (e:bG d a≠b):aL (aV c f d) a b=aL c a b:=by
 unfold aV;rw [eL,lH,zBw e,<-sN]
def aI9 {a} {b c:Nat} (d:a[b]?=some c):a=a.take b++c::a.drop (b+1):=by
 obtain ⟨e,f⟩:=zAc.1 d;rw [<-f,<-zAx e,zAu]
def aE5 {c d b} (a) (g:c[d]?=some b):aL (aF c d) a (bG b a)=aF (aL c a (bG b a)) (gF c d b a):=by
 have e:=aAK c d b a;have f:aL c a (bG b a)=aL (c.take d) a (bG b a)++hQ b a::aL (c.drop (d+1)) a (bG b a):=by
  conv=>lhs;rw [aI9 g]
  rw [eL,lH,zBx rfl]
 unfold aF;rw [eL,f];generalize aL (c.take d) a (bG b a)=A at e⊢;generalize aL (c.drop (d+1)) a (bG b a)=C;rw [<-e,List.take_left,List.drop_append,List.drop_eq_nil_of_le oM,show A.length+1 - A.length=1 by omega];rfl
def zT {a d e} (b c) (f:a[d]?=some e) (g:bG e b≠c):aL (aF a d) b c=aL a b c:=by
 conv=>rhs;rw [aI9 f]
 unfold aF;rw [eL,eL,lH,zBw g]
def aF5 {α:Type} (b:List α) (a) (d:α) (e:a<=b.length):(aV b a d).take a=b.take a:=by
 unfold aV;have c:(b.take a).length=a:=by rw [zAj];omega
 rw [List.take_append,c,Nat.sub_self,List.take_zero,List.append_nil,List.take_take,Nat.min_self]
def aKj {b} {e d c:Nat} (f:∀a∈b,a < c) (j:d < c):∀a∈aV b e d,a < c:=fun a k=>by
 rcases List.mem_cons.1 ((fN b e d).mem_iff.1 k) with rfl | g;exact j;exact f a g
def pE {c} {g d:Nat} (e:∀a∈c,a < d):∀a∈aF c g,a < d:=fun a f=>by
 unfold aF at f;rcases zCp.1 f with b | b;exact e a (List.mem_of_mem_take b);exact e a (List.mem_of_mem_drop b)
def TC (a b:Nat):Nat:=16+512*a+b
def aLw {c a d b} (f:a < 512) (g:b < 512) (e:TC c a=TC d b):c=d/\a=b:=by
 unfold TC at e;omega
def aK3 {a b} (d:a < 9) (e:b < 2 ^ a):b < 512:=by
 have:2 ^ a<=2 ^ 9:=zBp dC oM;have c:(2:Nat)^ 9=512:=dC;omega
def dB (own:Nat->Nat) (d c b a:Nat):Nat:=if a < d then own a else if a < c then b else 0
structure WaveS (w:World) (B:Nat) (own:Nat->Nat) (gv:Nat) (S:Nat->Value) (Ls:Nat->List Nat) (n v:Int):Prop where
 blk:Bk w gv 180 (wcells S n v)
 base:B<=gv/\own gv=2
 rows:∀lv,lv < 9->∃G:Nat->Nat,w.ownsRow B 183 3 (S lv) (2 ^ lv) (eJ G lv (2 ^ lv))/\(∀b,(S lv).ownBlock=some b->own b=2)/\∀p,p < 2 ^ lv->TreeE w (fun b=>own b=TC lv p) (G p) (aL (Ls lv) lv p)
 bnd:∀b,own b≠0->B<=b/\b < w.heap.size
def WaveE (w:World) (B:Nat) (own:Nat->Nat) (b:Nat) (a:List Nat):Prop:=∃S c,WaveS w B own b S (fun _=>a) (a.length:Int) c
def WaveS.vis {w w' B own f} {S:Nat->Value} {d:Nat->List Nat} {j s} (a:WaveS w B own f S d j s) (b:Vis w w'):∃c,WaveS w' B own f S d j c:=by
 obtain ⟨c,n⟩:=b.waveC a.blk;refine ⟨c,n,a.base,fun q o=>?_,fun e g=>⟨(a.bnd e g).1,zAl (a.bnd e g).2 b.size⟩⟩;obtain ⟨G,k,l,m⟩:=a.rows q o;exact ⟨G,b.own k dC dC,l,fun r p=>(m r p).vis b⟩
def WaveE.vis {w w' B own c b} (a:WaveE w B own c b) (e:Vis w w'):WaveE w' B own c b:=by
 obtain ⟨S,g,a⟩:=a;obtain ⟨f,d⟩:=a.vis e;exact ⟨S,f,d⟩
def WaveE.at {w B own e c} (a:WaveE w B own e c):WaveAt w B e c:=by
 obtain ⟨S,m,a⟩:=a;refine ⟨a.base.1,S,m,a.blk,fun l k=>?_⟩;obtain ⟨G,g,n,d⟩:=a.rows l k;refine ⟨G,g,fun b f=>⟨?_,(d b f).at⟩⟩;have j:=(d b f).1;exact (a.bnd (G b) (by rw [j];unfold TC;omega)).1
def WaveS.edit {w w' B own u} {S:Nat->Value} {n:Nat->List Nat} {D ac U} (f:WaveS w B own u S n D ac) {lv p gx} (a7:lv < 9) (a9:p < 2 ^ lv) {G} (a1:w.ownsRow B 183 3 (S lv) (2 ^ lv) (eJ G lv (2 ^ lv))) (L:own gx < 16) (a5:∀s,¬Bk w gx 183 s) {I} (aa:TreeE w' (Gw (fun a=>own a=TC lv p) w.heap.size) (G p) I) (C:Keep (fun E=>own E=TC lv p∨E=u∨E=gx) w w') (A:Bk w' u 180 (wcells S D U)) {L'} (a3:aL L' lv p=I) (a4:∀c,c≠p->aL L' lv c=aL (n lv) lv c):
 WaveS w' B (dB own w.heap.size w'.heap.size (TC lv p)) u S (fun b=>if b=lv then L' else n b) D U:=by
 have ap:B<=w.heap.size:=zAk f.base.1 (zCm f.blk.lt);have y:∀a,a < w.heap.size->dB own w.heap.size w'.heap.size (TC lv p) a=own a:=fun a A=>by unfold dB;rw [zBx A]
 refine ⟨A,⟨f.base.1,by rw [y _ f.blk.lt];exact f.base.2⟩,fun b T=>?_,fun a k=>?_⟩
 · obtain ⟨m,t,J,K⟩:=f.rows b T;refine ⟨m,aA t fun a s x o=>C.bk o fun d=>?_,fun a x=>?_,fun c q=>?_⟩;rcases d with d | d | d;rw [J a x] at d;unfold TC at d;omega;subst d;exact absurd (aP o f.blk).1 dC;subst d;exact a5 s o;rw [y _ (t.lt a x).2];exact J a x
   · have O:(b≠lv∨c≠p)->TreeE w' (fun a=>dB own w.heap.size w'.heap.size (TC lv p) a=TC b c) (m c) (aL (n b) b c):=fun a8=>by
        have ab:=(K c q).keep C fun a ar s M o g d=>by rcases d with d | d | d;rw [g] at d;obtain ⟨e,l⟩:=aLw (aK3 T q) (aK3 a7 a9) d;rcases a8 with v | v;exact v e;exact v l;subst d;rw [(aP o f.blk).1] at M;exact absurd M dC;subst d;rw [g] at L;unfold TC at L;omega
        have aq:TreeE w (fun a=>own a=TC b c) (m c) (aL (n b) b c):=K c q;refine ab.mono fun a k g=>?_;have a6:a < w.heap.size:=(f.bnd a (by rw [g];unfold TC;omega)).2;rw [y a a6];exact g
     by_cases e:b=lv
     · subst e;rw [zBx rfl];by_cases l:c=p
       · subst l;rw [a3]
         have a2:m c=G c:=by
           have v:=t.1;have e:=(fV m b (2 ^ b) c q).1;have l:=(fV G b (2 ^ b) c q).1
           have a0:eJ m b (2 ^ b)=eJ G b (2 ^ b):=by
             rcases t.2 with ⟨H,V⟩|⟨an,aj,al,H,V,W,ad,ae,af,X⟩;have:=Nat.two_pow_pos b;omega
             · rcases a1.2 with ⟨j,r⟩|⟨ao,ak,am,j,r,Y,ag,ah,ai,Z⟩;have:=Nat.two_pow_pos b;omega
               · rw [H] at j;injection j with j _ _;injection j with j;injection j with j _;subst j;obtain ⟨_,rfl⟩:=aP W Y;rw [<-X,<-Z]
           rw [a0,l] at e;injection e with e;injection e with e;injection e with e;injection e with e _;exact e.symm
         rw [a2];refine aa.mono fun a k g=>?_;rcases g with g | g;rw [y a (f.bnd a (by rw [g];unfold TC;omega)).2];exact g
         · unfold dB;rw [zBw oM,zBx k]
       rw [a4 c l];exact O (.inr l)
     rw [zBw e];exact O (.inl e)
 unfold dB at k;by_cases z:a < w.heap.size;rw [zBx z] at k;exact ⟨(f.bnd a k).1,zAl z C.size⟩;rw [zBw z] at k;by_cases r:a < w'.heap.size;exact ⟨by omega,r⟩;rw [zBw r] at k;exact absurd rfl k
def aHG (S:Nat->Value) (c a b):(wcells S c b).setIfInBounds 9 (.int .i64 a)=wcells S a b:=by
 unfold wcells;rfl
def WaveS.set_n {w B own b} {S:Nat->Value} {g:Nat->List Nat} {y m} (c:WaveS w B own b S g y m) (e):WaveS (w.setCell ⟨b,9,none⟩ (.int .i64 e)) B own b S g e m:=by
 have f:Keep (fun a=>a=b) w (w.setCell ⟨b,9,none⟩ (.int .i64 e)):=ka (F:=fun a=>a=b) (kf _ _) (p:=⟨b,9,none⟩) (.inl rfl) _;refine ⟨by have:=c.blk.set 9 (.int .i64 e);rw [aHG] at this;exact this,c.base,fun x u=>?_,fun a j=>⟨(c.bnd a j).1,zAl (c.bnd a j).2 f.size⟩⟩;obtain ⟨G,r,s,t⟩:=c.rows x u;exact ⟨G,aA r fun a n _ d=>f.bk d (Bk.ne d c.blk dC),s,fun l v=>(t l v).keep f fun a z n k d _ o=>by
  have q:a=b:=o;subst q;rw [(aP d c.blk).1] at k;exact absurd k dC⟩
def WaveS.far {w w' B own j} {S:Nat->Value} {f:Nat->List Nat} {m n} (b:WaveS w B own j S f m n) {H} (d:Keep H w w') (e:∀a,H a->own a≠2/\own a < 16):WaveS w' B own j S f m n:=by
 refine ⟨d.bk b.blk (fun c=>by have:=e _ c;have:=b.base.2;omega),b.base,fun v t=>?_,fun a k=>⟨(b.bnd a k).1,zAl (b.bnd a k).2 d.size⟩⟩;obtain ⟨G,p,g,q⟩:=b.rows v t;exact ⟨G,aA p fun a o r l=>d.bk l (fun c=>by have:=e _ c;have:=g a r;omega),g,fun x u=>(q x u).keep d fun a z o y l s c=>by
  have:=e a c;rw [s] at this;unfold TC at this;omega⟩
def WaveE.far {w w' B own d c} (b:WaveE w B own d c) {H} (f:Keep H w w') (e:∀a,H a->own a≠2/\own a < 16):WaveE w' B own d c:=by
 obtain ⟨S,g,b⟩:=b;exact ⟨S,g,b.far f e⟩
def WaveS.paint {w B own own' c} {S:Nat->Value} {f:Nat->List Nat} {l m} (b:WaveS w B own c S f l m) (d:∀a,a < w.heap.size->2<=own a->own' a=own a) (o:∀a,own' a≠0->B<=a/\a < w.heap.size):WaveS w B own' c S f l m:=by
 refine ⟨b.blk,⟨b.base.1,by rw [d c b.blk.lt (by rw [b.base.2];omega)];exact b.base.2⟩,fun s q=>?_,o⟩;obtain ⟨G,g,j,n⟩:=b.rows s q;refine ⟨G,g,fun a e=>?_,fun t r=>(n t r).mono fun a p k=>?_⟩;rw [d a (g.lt a e).2 (by rw [j a e];omega)];exact j a e;rw [d a p (by rw [k];unfold TC;omega)];exact k
def WaveE.paint {w B own own' d c} (b:WaveE w B own d c) (e:∀a,a < w.heap.size->2<=own a->own' a=own a) (f:∀a,own' a≠0->B<=a/\a < w.heap.size):WaveE w B own' d c:=by
 obtain ⟨S,g,b⟩:=b;exact ⟨S,g,b.paint e f⟩
end
section
def inR (a b:Nat):Nat:=if b<=a then a+1 else a
def bB (a b:Nat):Nat:=if b < a then a - 1 else a
abbrev ro (R:List Nat) (a:Nat):Nat:=R.idxOf a
def cE {R a} (b:a∈R):R[ro R a]?=some a:=zAc.2 ⟨List.idxOf_lt_length_iff.2 b,List.getElem_idxOf _⟩
def gJ {R} (e:R.Nodup) {a b} (d:R[a]?=some b):ro R b=a:=by
 obtain ⟨f,c⟩:=zAc.1 d;subst c;exact e.idxOf_getElem a f
def fC {R b c} (e:b∈R) (f:c∈R) (d:ro R b=ro R c):b=c:=by
 have a:=cE e;rw [d,cE f] at a;injection a with a;exact a.symm
def vY {R} (n:R.Nodup) {a t d} (g:R[a]?=some d) (u:t < R.length):
 (aV (aF R a) t d).Perm R/\ro (aV (aF R a) t d) d=t/\∀c∈R,c≠d->ro (aV (aF R a) t d) c=inR (bB (ro R c) a) t:=by
 have f:=(zAc.1 g).1;have q:=dD R f;have l:(aV (aF R a) t d).Perm R:=(fN _ _ _).trans (eV g);have k:(aV (aF R a) t d).Nodup:=l.nodup_iff.2 n;refine ⟨l,?_,fun c o p=>?_⟩
 · refine gJ k ?_;rw [jI _ _ oM,zBw oM,zBx rfl]
 · have b:=cE o;have s:ro R c≠a:=fun m=>by rw [m,g] at b;injection b with b;exact p b.symm
   refine gJ k ?_;have r:=(zAc.1 b).1;rw [jI _ _ oM];unfold inR bB;by_cases j:a < ro R c;rw [zBx j];by_cases e:t<=ro R c - 1;rw [zBx e,zBw oM,zBw oM,eH _ f,zBw oM];rw [<-b];congr 1;omega;rw [zBw e,zBx oM,eH _ f,zBw oM,<-b];congr 1;omega
   · rw [zBw j];by_cases e:t<=ro R c
     · rw [zBx e,zBw oM,zBw oM,eH _ f,zBx oM,<-b];congr 1
     · rw [zBw e,zBx oM,eH _ f,zBx oM,<-b]
def tW (S R:List Nat) (a b:Nat):Prop:=S.getD a 0 < S.getD b 0∨(S.getD a 0=S.getD b 0/\ro R (a+1) < ro R (b+1))
structure Near (S R:List Nat) (N i:Nat):Prop where
 endk:EndOk S N
 perm:R.Perm (List.range (N+1))
 first:∀p q,p<=N->q<=N->ro R p < ro R q->S.getD p 0<=S.getD q 0
 cons:∀p q,p<=N->q<=N->p≠q->p+1≠i->q+1≠i->(ro R p < ro R q↔tW S R p q)
section
variable {S R : List Nat} {N i : Nat}
def Near.nodup (a:Near S R N i):R.Nodup:=a.perm.nodup_iff.2 List.nodup_range
def Near.mem (b:Near S R N i) {a}:a∈R↔a<=N:=by
 rw [b.perm.mem_iff,zCj];omega
def Near.len (a:Near S R N i):R.length=N+1:=by simpa using a.perm.length_eq
def aCT {S a b} (k:a < S.length) (l:b < S.length) (j:S.getD a 0=S.getD b 0) (e:sufLt S (a+1) (b+1)):sufLt S a b:=by
 obtain ⟨w,d,m,f,g⟩:=e;refine ⟨w+1,d+1,by omega,fun c n=>?_,?_⟩
 · cases c with
   | zero=>
     rw [zBq,zBq,fH k,fH l,j]
   | succ c=>
     have:=f c oM;rw [show a+(c+1)=a+1+c by omega,show b+(c+1)=b+1+c by omega];exact this
 rw [show a+(d+1)=a+1+d by omega,show b+(d+1)=b+1+d by omega];exact g
def aFN {S a b} (c:a < S.length) (d:b < S.length) (e:S.getD a 0 < S.getD b 0):sufLt S a b:=by
 refine ⟨1,0,by omega,fun g f=>by omega,?_⟩;rw [zBq,zBq,fH c,fH d];omega
def Near.sorted (c:Near S R N 0):IsSuf S R:=by
 obtain ⟨r,E,k⟩:=c.endk;have D:∀e a b,N < a+e->a<=N->b<=N->a≠b->ro R a < ro R b->sufLt S a b:=by
  intro e
  induction e with
  | zero=>intro a b u o;omega
  | succ e C=>
    intro a b u o A z v;rcases (c.cons a b o A z oM oM).1 v with j |⟨j,s⟩;exact aFN oM oM j
    · have H:a≠N:=fun d=>by subst d;have:=k b oM;omega
      have I:b≠N:=fun d=>by subst d;have:=k a oM;omega
      exact aCT oM oM j (C (a+1) (b+1) oM oM oM oM s)
 refine ⟨by rw [r];exact c.perm,?_⟩;rw [zAr];intro f g l m t;have n:=c.nodup;have x:R[f]<=N:=c.mem.1 (zBj l);have y:R[g]<=N:=c.mem.1 (zBj m);have p:ro R R[f]=f:=gJ n (zAa l);have q:ro R R[g]=g:=gJ n (zAa m);exact D (N+1) _ _ oM x y (fun d=>by rw [d,q] at p;omega) (by rw [p,q];exact t)
def IsSuf.near (p:IsSuf S R) (z:EndOk S N):Near S R N 0:=by
 obtain ⟨t,x,m⟩:=z;have D:R.Perm (List.range (N+1)):=by rw [<-t];exact p.perm
 have J:=p.nodup;have n:∀a,a<=N->a∈R:=fun a c=>p.mem oM;have q:∀a b,a<=N->b<=N->ro R a < ro R b->sufLt S a b:=fun a b c e j=>by have E:=(zAc.1 (cE (n a c)));have I:=(zAc.1 (cE (n b e)));obtain ⟨d,f⟩:=E;obtain ⟨l,y⟩:=I;have:=zAr.1 p.sorted _ _ d l j;rwa [f,y] at this
 have s:∀a b,a<=N->b<=N->sufLt S a b->ro R a < ro R b:=fun a b c e j=>by rcases Nat.lt_trichotomy (ro R a) (ro R b) with d | d | d;exact d;have:=fC (n a c) (n b e) d;subst this;exact (j.asymm j).elim;exact (j.asymm (q b a e c d)).elim
 have u:∀a b,a<=N->b<=N->sufLt S a b->S.getD a 0<=S.getD b 0:=fun a b c e ⟨w,g,d,f,l⟩=>by
  cases g with
  | zero=>
    rw [zBq,zBq,fH oM,fH oM] at l;omega
  | succ g=>
    have:=f 0 oM;rw [zBq,zBq,fH oM,fH oM] at this;omega
 have v:∀a b,a<=N->b<=N->a≠b->S.getD a 0=S.getD b 0->(sufLt S a b↔sufLt S (a+1) (b+1)):=fun a b c e r A=>by
  constructor
  · rintro ⟨w,g,d,f,l⟩;cases g with
    | zero=>
      rw [zBq,zBq,fH oM,fH oM] at l;omega
    | succ g=>
      refine ⟨g+1,g,by omega,fun o n=>?_,?_⟩;have:=f (o+1) oM;rw [show a+1+o=a+(o+1) by omega,show b+1+o=b+(o+1) by omega];exact this;rw [show a+1+g=a+(g+1) by omega,show b+1+g=b+(g+1) by omega];exact l
  exact aCT oM oM A
 refine ⟨⟨t,x,m⟩,D,fun a b c e j=>u a b c e (q a b c e j),fun a b c e r _ _=>?_⟩;unfold tW;constructor
 · intro j;have d:=q a b c e j;rcases Nat.lt_or_eq_of_le (u a b c e d) with f | f;exact .inl f
   · refine .inr ⟨f,?_⟩;have C:a≠N:=fun k=>by subst k;have:=m b oM;omega
     have H:b≠N:=fun k=>by subst k;have:=m a oM;omega
     exact s _ _ oM oM ((v a b c e r f).1 d)
 · rintro (d |⟨d,f⟩);exact s a b c e (aFN oM oM d)
   · have C:a≠N:=fun k=>by subst k;have:=m b oM;omega
     have H:b≠N:=fun k=>by subst k;have:=m a oM;omega
     exact s a b c e ((v a b c e r d).2 (q _ _ oM oM f))
def aBh (S R:List Nat) (N b c:Nat):Nat:=(List.range (N+1)).countP fun a=>decide (S.getD a 0 < b∨(S.getD a 0=b/\ro R (a+1) < c))
def aAu {R:List Nat} (j:R.Nodup) (b:Nat) (c:Nat->Bool):(R.take b).countP c=R.countP fun a=>c a&&decide (ro R a < b):=by
 have k:R.countP (fun a=>c a&&decide (ro R a < b))=(R.take b).countP (fun a=>c a&&decide (ro R a < b))+(R.drop b).countP (fun a=>c a&&decide (ro R a < b)):=by rw [<-List.countP_append,zAu]
 have l:(R.drop b).countP (fun a=>c a&&decide (ro R a < b))=0:=by rw [List.countP_eq_zero];intro a e;obtain ⟨f,g,d⟩:=zBo.1 e;rw [List.getElem_drop] at d;have:ro R a=b+f:=gJ j (by rw [<-d];exact zAa _);simp;omega
 have m:(R.take b).countP (fun a=>c a&&decide (ro R a < b))=(R.take b).countP c:=by refine List.countP_congr fun a e=>?_;obtain ⟨f,g,d⟩:=zBo.1 e;rw [zAj] at g;rw [List.getElem_take] at d;have:ro R a=f:=gJ j (by rw [<-d];exact zAa _);have n:ro R a < b:=oM;simp [n]
 rw [k,l,m];rfl
def aBr {b:List Nat} {c d:Nat->Bool} (e:∀a∈b,¬(c a=true/\d a=true)):b.countP c+b.countP d=b.countP fun a=>c a||d a:=by
 induction b with
 | nil=>rfl
 | cons a b g=>
   have m:=e a (by simp);rw [zBn,zBn,zBn,<-g fun j f=>e j (by simp [f])];cases k:c a <;> cases l:d a <;> simp_all <;> omega
def rU (n:EndOk S N) (c:R.Perm (List.range (N+1))) {a} (r:0 < a) (d):cL (aH S R) a d=aBh S R N a d:=by
 obtain ⟨e,f,q⟩:=n;have o:R.Nodup:=c.nodup_iff.2 List.nodup_range;unfold cL aBh;have g:(aH S R).countP (fun p=>decide (p < a))=(List.range (N+1)).countP fun b=>decide (S.getD b 0 < a):=by
  unfold aH;rw [List.countP_map,c.countP_eq];refine gZ _ _ ?_ fun b c=>?_;simp only [Function.comp];rw [bT oM,e];rfl
  · simp only [Function.comp];rw [bE oM]
 have j:((aH S R).take d).count a=(List.range (N+1)).countP fun b=>decide (S.getD b 0=a)&&decide (ro R (b+1) < d):=by
  unfold aH;rw [<-List.map_take,List.count_eq_countP,List.countP_map,aAu o,c.countP_eq];refine gZ _ _ ?_ fun b c=>?_
  · simp only [Function.comp];rw [bT oM,e];have:(N+1 - 1)=N:=oM;rw [this,f];have m:¬(0:Nat)=a:=oM;simp [m]
  simp only [Function.comp];rw [bE oM];rfl
 rw [g,j,aBr]
 · refine List.countP_congr fun b _=>?_;simp
 intro b _ ⟨k,l⟩;simp at k l;omega
def aA9 {K:Nat->Bool}:∀ {d:List Nat},d.Pairwise (fun a o=>K o=true->K a=true)->∀(c a:Nat),d[c]?=some a->(K a=true↔c < d.countP K)
 | [],_,c,a,b=>by simp at b
 | g::d,hO,c,a,b=>by
   obtain ⟨k,l⟩:=List.pairwise_cons.1 hO;cases e:K g with
   | true=>
     rw [List.countP_cons_of_pos e];cases c with
     | zero=>
       injection b with b;subst b;simp [e]
     | succ c=>
       rw [aA9 l c a b];omega
   | false=>
     have j:(g::d).countP K=0:=by
        rw [List.countP_eq_zero];intro p f;rcases List.mem_cons.1 f with rfl | f
        · simp [e]
        · intro m;have:=k p f m;rw [e] at this;cases this
     rw [j];have n:a∈g::d:=zAd b;have:=(List.countP_eq_zero.1 j) a n;simp [this]
def KB (S R:List Nat) (i a:Nat):Bool:=decide (S.getD a 0 < S.getD i 0∨(S.getD a 0=S.getD i 0/\ro R (a+1) < ro R (i+1)))
def aKh (a:Near S R N (i+1)) (u:i<=N):∀b,b<=N->b≠i->(KB S R i b=true↔bB (ro R b) (ro R i) < aBh S R N (S.getD i 0) (ro R (i+1))):=by
 intro b A M;have m:=a.nodup;have s:=cE (a.mem.2 u);have t:=cE (a.mem.2 A);have v:=(zAc.1 s).1;have e:=eV s;have a0:(aF R (ro R i)).Nodup:=(List.nodup_cons.1 (e.nodup_iff.2 m)).2;have a1:ro R b≠ro R i:=fun c=>M (fC (a.mem.2 A) (a.mem.2 u) c);have H:(aF R (ro R i))[bB (ro R b) (ro R i)]?=some b:=by
  unfold bB;rw [eH _ v];by_cases r:ro R i < ro R b;rw [zBx r,zBw oM,<-t];congr 1;omega
  · rw [zBw r,zBx oM,<-t]
 have J:aBh S R N (S.getD i 0) (ro R (i+1))=(aF R (ro R i)).countP (KB S R i):=by
  unfold aBh;rw [<-a.perm.countP_eq,<-e.countP_eq,zBn];have D:decide (S.getD i 0 < S.getD i 0∨(S.getD i 0=S.getD i 0/\ro R (i+1) < ro R (i+1)))=false:=by rw [decide_eq_false_iff_not];omega
  rw [D];rfl
 rw [J];refine aA9 ?_ _ _ H;rw [zAr];intro n o E I Z p;have j:(aF R (ro R i))[n]?=some (aF R (ro R i))[n]:=zAa E;have k:(aF R (ro R i))[o]?=some (aF R (ro R i))[o]:=zAa I;obtain ⟨f,O⟩:=eqx ((aF R (ro R i))[n]);obtain ⟨g,W⟩:=eqx ((aF R (ro R i))[o]);rw [O] at j⊢;rw [W] at k p;have z:=(List.nodup_cons.1 (e.nodup_iff.2 m)).1;have x:=zAd j;have y:=zAd k;have a2:f≠i:=fun c=>z (by rw [c] at x;exact x);have a3:g≠i:=fun c=>z (by rw [c] at y;exact y);have U:f∈R:=e.subset (by simp [zAd j]);have Y:g∈R:=e.subset (by simp [zAd k]);have T:=a.mem.1 U;have X:=a.mem.1 Y;have C:∀ {d q:Nat},(aF R (ro R i))[d]?=some q->ro R q=if d < ro R i then d else d+1:=fun {d q} l=>by rw [eH _ v] at l;split at l;rw [zBx (by assumption)];exact gJ m l;rw [zBw (by assumption)];exact gJ m l
 have L:ro R f < ro R g:=by rw [C j,C k];split <;> split <;> omega
 have V:f≠g:=fun c=>by subst c;omega
 have K:=(a.cons f g T X V oM oM).1 L;unfold KB at p⊢;rw [zCa] at p⊢;unfold tW at K;omega
def tgt (S R:List Nat) (i:Nat):Nat:=cL (aH S R) (S.getD i 0) (ro R (i+1))
def aHQ (a:Near S R N (i+1)) (b:i < N):tgt S R i=aBh S R N (S.getD i 0) (ro R (i+1)):=rU a.endk a.perm (a.endk.pos i b) _
def aHP (c:Near S R N (i+1)) (e:i < N):tgt S R i < N+1:=by
 rw [aHQ c e];unfold aBh;have d:(List.range (N+1)).countP (fun a=>decide (S.getD a 0 < S.getD i 0∨(S.getD a 0=S.getD i 0/\ro R (a+1) < ro R (i+1))))≠(List.range (N+1)).length:=fun b=>by have:=(List.countP_eq_length.1 b) i (by simp;omega);rw [zCa] at this;omega
 have f:=zBh (p:=fun a=>decide (S.getD a 0 < S.getD i 0∨(S.getD a 0=S.getD i 0/\ro R (a+1) < ro R (i+1)))) (l:=List.range (N+1));rw [zCi] at d f;omega
def aFJ (k:Near S R N (i+1)) (M:i < N) {g n} (O:n=tgt S R i) (A:g.Perm R) (J:ro g i=n) (m:∀a∈R,a≠i->ro g a=inR (bB (ro R a) (ro R i)) n) (D) (a0:D=i∨(ro R i=n/\D=0)):Near S g N D:=by
 have y:=aKh k oM;rw [<-aHQ k M,<-O] at y;have l:∀a,a<=N->a∈R:=fun a d=>k.mem.2 d;have t:∀a,a<=N->a≠i->ro R a≠ro R i:=fun a d e j=>e (fC (l a d) (l i oM) j);have u:∀a b,a<=N->b<=N->a≠i->b≠i->(ro g a < ro g b↔ro R a < ro R b):=fun a b d f e c=>by rw [m a (l a d) e,m b (l b f) c];have Y:=t a d e;have Z:=t b f c;unfold inR bB;split <;> split <;> split <;> split <;> omega
 have I:∀a,a<=N->a≠i->(ro g a < ro g i↔KB S R i a=true):=fun a d e=>by rw [y a d e,J,m a (l a d) e];unfold inR;split <;> omega
 have H:∀a,a<=N->a≠i->(ro g i < ro g a↔¬KB S R i a=true):=fun a d e=>by rw [y a d e,J,m a (l a d) e];unfold inR;split <;> omega
 have K:∀a,a < N->a≠i->(a+1≠i∨ro R i=n)->(ro R (a+1) < ro R (i+1)↔ro g (a+1) < ro g (i+1)):=fun a d e q=>by
  rcases q with q | q;exact (u (a+1) (i+1) oM oM q oM).symm
  · have r:∀b,b<=N->ro g b=ro R b:=fun b f=>by
        by_cases c:b=i;subst c;omega
        · rw [m b (l b f) c,q];have:=t b f c;unfold inR bB;split <;> split <;> omega
    rw [r _ oM,r _ oM]
 obtain ⟨W,X,E⟩:=k.endk;refine ⟨k.endk,A.trans k.perm,fun a b d f z=>?_,fun a b d f C a3 a4=>?_⟩;by_cases e:a=i;subst e;by_cases c:b=a;subst c;omega;have:=(H b f c).1 z;unfold KB at this;rw [zCa] at this;omega;by_cases c:b=i;subst c;have:=(I a d e).1 z;unfold KB at this;rw [zCa] at this;omega;exact k.first a b d f ((u a b d f e c).1 z)
 · have x:∀o p,o<=N->p<=N->o≠p->S.getD o 0=S.getD p 0->o < N/\p < N:=fun o p T U a5 a6=>by refine ⟨Nat.lt_of_le_of_ne T fun j=>?_,Nat.lt_of_le_of_ne U fun j=>?_⟩;subst j;have:=E p oM;omega;subst j;have:=E o oM;omega
   by_cases e:a=i;subst e;have c:b≠a:=fun j=>C j.symm;rw [H b f c];unfold KB tW;rw [zCa];by_cases s:S.getD b 0=S.getD a 0;obtain ⟨v,L⟩:=x b a f d c s;have:=K b v c oM;have a1:ro R (b+1)≠ro R (a+1):=fun j=>c (by have:=fC (l (b+1) oM) (l (a+1) oM) j;omega);have a2:ro g (b+1)≠ro g (a+1):=fun j=>c (by have:=fC ((A.trans k.perm).mem_iff.2 (by simp;omega)) ((A.trans k.perm).mem_iff.2 (by simp;omega)) j;omega);omega;omega
   · by_cases c:b=i;subst c;rw [I a d e];unfold KB tW;rw [zCa];by_cases s:S.getD a 0=S.getD b 0;obtain ⟨v,L⟩:=x a b d f e s;have:=K a v e oM;omega;omega
     · rw [u a b d f e c,k.cons a b d f C oM oM];unfold tW;by_cases s:S.getD a 0=S.getD b 0
       · obtain ⟨v,L⟩:=x a b d f C s;by_cases V:ro R i=n
         · have r:∀b,b<=N->ro g b=ro R b:=fun b f=>by
            by_cases c:b=i;subst c;omega
            · rw [m b (l b f) c,V];have:=t b f c;unfold inR bB;split <;> split <;> omega
           rw [r _ oM,r _ oM]
         · rw [u (a+1) (b+1) oM oM oM oM]
       omega
end
end
end Go.Proofs.YtecdldbdednahaaGreatDoor
