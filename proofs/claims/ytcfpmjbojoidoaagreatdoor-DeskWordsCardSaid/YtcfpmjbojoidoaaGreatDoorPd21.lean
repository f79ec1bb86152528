/- Lemmas of the walk. Conditions: each its own. -/
import Derived.Test.YtcfpmjbojoidoaaGreatDoorPd20
import Derived.Test.YtcfpmjbojoidoaaGreatDoorProg
import Derived.Test.YtcfpmjbojoidoaaGreatDoorSht
import Derived.Test.YtcfpmjbojoidoaaGreatDoorShl
import Derived.Test.YtcfpmjbojoidoaaGreatDoorShi
set_option linter.all false
set_option maxRecDepth 100000
set_option maxHeartbeats 1000000
open Go.Proofs.Tryz
namespace Go.Proofs.YtcfpmjbojoidoaaGreatDoor
open Go.RowKit
def aD2 (k:World) (a:Nat) (own:Nat->Nat) (b g i j:Nat) (e:List UInt8) (f:Ending) (d:World):Prop:=
 f=.returned (.int .i64 0)/\∃c,StAt d a c b g i j e/\LFS a b k d own c
def StAt.edited {l f:World} {b c g j k:Nat} {own d:Nat->Nat} {q e:List UInt8} (a:StAt l b own c g j k q) (o:LiveE f b d g e k) (i:LF b l f own d) (n:e.length<=127) (p:e.length<=j):StAt f b d c g j k e/\LFS b c l f own d:=
 ⟨⟨i.vis.bk a.blk dC dC (fun m=>m a.col),a.low,(i.old _ a.blk.lt).trans a.col,o,n,p,a.max,a.r1,a.r2⟩,LFS.of_lf c i⟩
structure EdW (w W:World) (B:Nat) (own:Nat->Nat) (gs gl most rate:Nat) (t:List UInt8) (kind p n:Int) (A:Option Addr) (m c:Nat):Prop where
 low:Below w.heap.size w W
 box:Bk W w.heap.size 58 #[.int .i64 kind,.int .i64 p,.int .i64 n,.slice A m c]
 st:StAt W B own gs gl most rate t
 ap:Ap own gs w.heap.size
def EdW.mk' {a:World} {j:Nat} {own:Nat->Nat} {l k n o:Nat} {p:List UInt8} (e i g:Int) (b:Option Addr) (f c:Nat) (d:StAt a j own l k n o p):
 EdW a (a.alloc (.cells #[.int .i64 e,.int .i64 i,.int .i64 g,.slice b f c] 58)) j own l k n o p e i g b f c:=by
 have m:Below a.heap.size a (a.alloc (.cells #[.int .i64 e,.int .i64 i,.int .i64 g,.slice b f c] 58)):=bR.alloc nL _;exact ⟨m,Bk.new a _ _,d.vb (Vis.of_below m),⟨d.fresh nL,by have:=d.blk.lt;omega⟩⟩
def xP (e:Nat) (own:Nat->Nat) (d u s G n:Nat) (o m:List UInt8) (k:Nat) (a7:Int) (B:Option Addr) (l J:Nat) (r:World) (D:StAt r e own d u s G o) (W:o.length=n) (V:ArgZ r e own d B l m) (aV:k<=n) (aW:n+l<=s) (bg:n+l<=127):
 Calls prog 42 #[d,.agg #[.int .i64 1,(k:Int),.int .i64 a7,.slice B l J]] r (aD2 r e own d u s G (tB o k m)):=by
 have ak:m.length=l:=by simpa using V.1.1
 have q:=EdW.mk' 1 (k:Int) a7 B l J D;have aj:=V.vis q.low;have ao:=LFS.of_below e d own q.low;have a0:=kP e own d u s G n o k 0 _ q.st W;have an:jV n (k:Int) 0=true:=zBz oM;rw [an] at a0;have K:=q.box.cell 0;have aO:=q.box.cell 1;have aP:=q.box.cell 2;have U:=q.box.cell 3;have aL:=lhd aW;have aU:=D.max;have ah:IntKind.i64.wrap ((s:Int) -(n:Int))=(s:Int) -(n:Int):=by rw [IntKind.wrap_i64];omega
 have ai:decide ((l:Int) > (s:Int) -(n:Int))=false:=zBy oM;obtain ⟨v,aD,aJ,a9,a8,R,I,Q,aB⟩:=hqq9 q.st aj ao q.ap a0 q.box W ak ah;have aC:=lhd ai;clear D V q aj ao a0 an W ak aU ah ai;go_enter func42,ntmps42;go_wp2_with fail;refine a8.out.mono ?_;rintro ae w1 ⟨rfl,rfl⟩;clear a8;go_wp2_with fail;generalize r.alloc (.cells #[.int .i64 1,(k:Int),.int .i64 a7,.slice B l J] 58)=w1 at*
 clear K aO aP U;have ac:=lhd (fun j (a6:VB e w1 j)=>(v.out.vb a6.1).llen I.out);refine wp_region_any kR ?_;refine aX [27,28,29,30,31,32,33,34,35,36,37,38,39,40,41,42,43,44,45,26] (VB e) (Vs [is r.heap.size,is (.int .i64 1),is (.bool true),is (.bool true),is (.pointer (some ⟨r.heap.size,3,none⟩)),is (.slice B l J),is (l:Int),is d,is d,is (.pointer (some ⟨d,1,none⟩)),is (s:Int),is d,is d,is d,is u,is (n:Int),is (.int .i64 ((s:Int) -(n:Int))),is (.bool false),is (.bool false),is (.bool false)]) _ _ rfl kR vR (fun _ _=>VisK.trans) (cM tA0) ?_ ?_
 · refine aR ?_;refine pH 3 (.pointer (some r.heap.size)) ?_;refine sC (fun _ j a _ _ _ b _ _ _ g=>?_) ?_
   · have b3:_=_:=b 0 27 kR rfl;replace a:(VB e) w1 j:=bD a;have F:=a.1.bk R.out dC dC;have C:=F.cell 0;go_simp;exact g _ _ vR rfl
   refine pV 1 28 ?_;refine pV 2 29 ?_;refine gH 30 true 3 (.pointer (some r.heap.size)) ?_;refine sG 30 true (fun _ j a _ _ _ b _ _ _ g=>?_) ?_
   · have b4:_=_:=b 4 31 kR rfl;replace a:(VB e) w1 j:=bD a;have F:=a.1.bk R.out dC dC;have C:=F.cell 3;go_simp;exact g _ _ vR rfl
   refine gV 30 true 5 32 ?_;refine gH 30 true 0 (.pointer (some d)) ?_;refine gV 30 true 7 34 ?_;refine gV 30 true 8 35 ?_;refine sG 30 true (fun _ j a _ _ _ b _ _ _ g=>?_) ?_
   · have b6:_=_:=b 9 36 kR rfl;replace a:(VB e) w1 j:=bD a;have E:=a.1.bk v.out.blk dC dC;have C:=E.cell 1;go_simp;exact g _ _ vR rfl
   refine gH 30 true 0 (.pointer (some d)) ?_;refine gV 30 true 11 38 ?_;refine gV 30 true 12 39 ?_;refine sG 30 true (fun _ j a _ _ _ b _ _ _ g=>?_) ?_
   · have b8:_=_:=b 13 40 kR rfl;replace a:(VB e) w1 j:=bD a;have E:=a.1.bk v.out.blk dC dC;have C:=E.cell 0;go_simp;exact g _ _ vR rfl
   refine sG 30 true (fun _ j a _ _ _ b _ _ _ g=>?_) ?_
   · have b9:_=_:=b 14 41 kR rfl;replace a:(VB e) w1 j:=bD a;go_simp;refine (ac.out j a).mono ?_;rintro ae bl ⟨rfl,rfl⟩;exact g _ _ vR rfl
   refine sG 30 true (fun _ _ _ _ _ _ b _ _ _ g=>?_) ?_
   · have b7:_=_:=b 10 37 kR rfl;have ba:_=_:=b 15 42 kR rfl;go_simp;exact g _ _ vR (by first | rfl | exact congrArg (Value.int .i64) aB.out)
   refine sG 30 true (fun _ _ _ _ _ _ b _ _ _ g=>?_) ?_
   · have b5:_=_:=b 6 33 kR rfl;have bb:_=_:=b 16 43 kR rfl;go_simp;exact g _ _ vR (by first | rfl | exact congrArg Value.bool aC.out)
   refine pW 3 30 17 44 ?_;refine pV 18 45 ?_;exact aH
 · intro y x a b;replace a:(VB e) w1 x:=bD a;have ag:y (.tmp 26)=.bool false:=b 19 26 rfl;simp only [zqq];rw [ag];clear b;have aw:=v.out.vb a.1;have a2:=LFS.of_vb d own a;have L:=a.1.bk R.out dC dC;have K:=L.cell 0;have U:=L.cell 3;obtain ⟨aM,aK,aF,aI⟩:=hqq4 aw (aJ.out.trans a2) (aD.out.step a2) L;clear aw a2 L a ac ag;go_wp2_with fail;clear K U;go_loopw [6,7,65] (fun _ _ P wr=>∃(c:Nat) (A:Nat->Nat),c<=l/\P=.int .i64 (c:Int)/\StAt wr e A d u s G (tB o k (m.take c))/\LFS e d x wr own A) (fun _ _ P _=>l -(intOf P).toNat)
   case atStart=>exact ⟨0,own,by omega,rfl,by rw [List.take_zero,aG1];exact aM.out,LFS.refl _ _ _ _⟩
   case round=>
    obtain ⟨c,A,bi,rfl,w,z⟩:=hrel;have N:k<=o.length:=(by rw [I.out];exact aV);by_cases av:c < l
    · obtain ⟨t,X⟩:∃t,m[c]?=some t:=⟨_,zAa (by rw [Q.out];exact av)⟩;have aT:c < m.length:=(by rw [Q.out];exact av);have a4:(m.take c).length=c:=(by rw [zAj];omega);have a1:(tB o k (m.take c)).length=n+c:=(by rw [uS o _ N,a4,I.out]);have M:=fun j (a6:VB e wr j)=>aCy j e A u (tB o k (m.take c)) G (k+c) t (w.vb a6.1).live (by rw [a1];omega) (by rw [a1];omega) w.r1 w.r2;have a3:=aG2 o (m.take c) t N;rw [a4] at a3;have ax:m.take (c+1)=m.take c++ [t]:=(by rw [zAv,X];rfl);unfold aA3 at M;rw [a3,<-ax] at M;obtain ⟨aN,aY,rfl,bh,am⟩:=((aF.out.step z).1).2 oM;have b2:wr.cell? ⟨aN,aY+c,none⟩=some (.int .u8 (t.toNat:Int)):=am c _ (by rw [zAf,X];rfl);have Y:=z.bk aI.out a9.out.col a9.out.ne dC dC;have aG:=lhd Y;have K:=Y.cell 0;have af:IntKind.i64.wrap ((k:Int)+(c:Int))=((k+c:Nat):Int):=(by rw [IntKind.wrap_i64];omega);have aq:(tB o k (m.take (c+1))).length=n+(c+1):=(by rw [uS o _ N,zAj,I.out];omega);obtain ⟨v,ad,aa,ab,aA⟩:=hqq5 w z M aq af;clear af w z M a3 ax a1 a4 X aT am Y aq N;go_wp2_with fail;refine wp_region_any kR ?_;refine bN e 9 [83,84,85,86,87,88,89,90,91] (fun _=>False) 3 [] (fun _=>True) (fun H _=>H=.pointer (some u)) [is d,is d,is d,dF,is (.pointer (some ⟨r.heap.size,1,none⟩)),is (k:Int),is (c:Int),is (.int .i64 ((k+c:Nat):Int)),is (.int .u8 (t.toNat:Int))] _ _ rfl dC kR kR kR (trivial) (fun _ _ _ _ _=>trivial) (fun _ _ _ D _=>D) tA0 ?_ ?_
      · refine bO ?_;refine pH3 0 (.pointer (some d)) ?_;refine pV3 0 83 ?_;refine pV3 1 84 ?_;refine sC3 (fun _ j a _ _ _ _ b _ _ _ g=>?_) ?_
        · replace a:VFB e (fun _=>False) wr j:=fD a;have bc:_=_:=b 2 85 kR rfl;have a5:=a.to_vb (fun _ _ p=>p);have E:=a5.1.bk v.out.blk dC dC;have C:=E.cell 0;go_simp;exact g _ _ (iW (VFB.of_vb vR)) rfl
        refine pH3 3 (.pointer (some r.heap.size)) ?_;refine sC3 (fun _ j a _ _ _ _ b _ _ _ g=>?_) ?_
        · replace a:VFB e (fun _=>False) wr j:=fD a;have bd:_=_:=b 4 87 kR rfl;have a5:=a.to_vb (fun _ _ p=>p);have F:=a5.1.bk aG.out dC dC;have C:=F.cell 1;go_simp;exact g _ _ (aE vR) rfl
        refine pH3 6 (.int .i64 (c:Int)) ?_;refine sC3 (fun _ _ _ _ _ _ _ b _ _ _ g=>?_) ?_
        · have be:_=_:=b 5 88 kR rfl;have bf:_=_:=b 6 89 kR rfl;go_simp;exact g _ _ (aE vR) (by first | rfl | exact congrArg (Value.int .i64) aA.out)
        refine pH3 7 (.int .u8 (t.toNat:Int)) ?_;exact aH
      · intro y x p a b al;replace a:VFB e (fun _=>False) wr x:=fD a;have ay:(fun H _=>H=.pointer (some u)) (y (.tmp 86)) x:=b 3 86 dC rfl;have aQ:y (.tmp 90)=.int .i64 ((k+c:Nat):Int):=b 7 90 dC rfl;have aS:y (.tmp 91)=.int .u8 (t.toNat:Int):=b 8 91 dC rfl;obtain ⟨b1,az⟩:=al 3 dC;have b0:(fun H _=>H=.pointer (some u)) b1 x:=az;clear az al;simp only [zqq];rw [aQ];rw [aS];clear b;have O:=a.to_vb (fun _ _ p=>p);rw [show y (.tmp 86)=_ from ay];clear b0 a ay;change wpAny prog Region.Mode.any _ _ (1+p) (bY 9 10) _ x;rw [zCs 1 p];refine bS (f:=p) (i:=9) kR ?_;refine cG rfl rfl ?_;generalize g:wpAny prog _ _ _ p _=K5;go_simp;refine (aa.out x O).mono ?_;rintro ae bj ⟨rfl,aZ,ar,au⟩;subst g;refine cD kR ?_;have Z:=(v.out.vb O.1).edited ar au (by rw [ab.out];omega) (by rw [ab.out];have:=aL.out;omega);obtain ⟨T,S⟩:=hqq2 Z.1 (ad.out.trans ((LFS.of_vb d A O).trans Z.2));clear Z ar au O v ad aa;go_wp2_with fail;go_roundw
        case rel=>exact ⟨c+1,aZ,by omega,by go_num,T.out,S.out⟩
        case measure=>simp [intOf];omega
    · obtain rfl:c=l:=oM;rw [zAg (by rw [Q.out];exact zAs _)] at w;obtain ⟨T,S⟩:=hqq2 w (aK.out.trans z);clear w z;go_wp2_with fail;go_ret;exact ⟨rfl,A,T.out,S.out⟩
def wL (e:Nat) (own:Nat->Nat) (g t j G f:Nat) (z:List UInt8) (m:Nat) (y:Int) (n:Option Addr) (l o:Nat) (k:World) (p:StAt k e own g t j G z) (u:z.length=f) (a7:m<=f) (U:j < f+l):
 Calls prog 42 #[g,.agg #[.int .i64 1,(m:Int),.int .i64 y,.slice n l o]] k fun s W=>s=.returned (.int .i64 3)/\VB e k W:=by
 have i:=EdW.mk' 1 (m:Int) y n l o p;have x:=kP e own g t j G f z m 0 _ i.st u;have F:jV f (m:Int) 0=true:=zBz oM;rw [F] at x;have N:=i.box.cell 0;have O:=i.box.cell 1;have P:=i.box.cell 2;have Q:=i.box.cell 3;have S:=p.max;have T:f<=j:=by have:=p.len;omega
 have D:IntKind.i64.wrap ((j:Int) -(f:Int))=(j:Int) -(f:Int):=by rw [IntKind.wrap_i64];omega
 have E:decide ((l:Int) > (j:Int) -(f:Int))=true:=zBz oM;obtain ⟨q,M,A,B,J,H,I⟩:=hqq7 i.st i.low x i.box u D E;clear p i x F u S D E T U;go_enter func42,ntmps42;go_wp2_with fail;refine A.out.mono ?_;rintro s w1 ⟨rfl,rfl⟩;clear A;go_wp2_with fail;generalize k.alloc (.cells #[.int .i64 1,(m:Int),.int .i64 y,.slice n l o] 58)=w1 at*
 clear N O P Q;have L:=lhd (fun d (V:VB e w1 d)=>(q.out.vb V.1).llen J.out);refine wp_region_any kR ?_;refine aX [27,28,29,30,31,32,33,34,35,36,37,38,39,40,41,42,43,44,45,26] (VB e) (Vs [is k.heap.size,is (.int .i64 1),is (.bool true),is (.bool true),is (.pointer (some ⟨k.heap.size,3,none⟩)),is (.slice n l o),is (l:Int),is g,is g,is (.pointer (some ⟨g,1,none⟩)),is (j:Int),is g,is g,is g,is t,is (f:Int),is (.int .i64 ((j:Int) -(f:Int))),is (.bool true),is (.bool true),is (.bool true)]) _ _ rfl kR vR (fun _ _=>VisK.trans) (cM tA0) ?_ ?_
 · refine aR ?_;refine pH 3 (.pointer (some k.heap.size)) ?_;refine sC (fun _ d a _ _ _ b _ _ _ c=>?_) ?_
   · have Y:_=_:=b 0 27 kR rfl;replace a:(VB e) w1 d:=bD a;have w:=a.1.bk B.out dC dC;have r:=w.cell 0;go_simp;exact c _ _ vR rfl
   refine pV 1 28 ?_;refine pV 2 29 ?_;refine gH 30 true 3 (.pointer (some k.heap.size)) ?_;refine sG 30 true (fun _ d a _ _ _ b _ _ _ c=>?_) ?_
   · have Z:_=_:=b 4 31 kR rfl;replace a:(VB e) w1 d:=bD a;have w:=a.1.bk B.out dC dC;have r:=w.cell 3;go_simp;exact c _ _ vR rfl
   refine gV 30 true 5 32 ?_;refine gH 30 true 0 (.pointer (some g)) ?_;refine gV 30 true 7 34 ?_;refine gV 30 true 8 35 ?_;refine sG 30 true (fun _ d a _ _ _ b _ _ _ c=>?_) ?_
   · have a1:_=_:=b 9 36 kR rfl;replace a:(VB e) w1 d:=bD a;have v:=a.1.bk q.out.blk dC dC;have r:=v.cell 1;go_simp;exact c _ _ vR rfl
   refine gH 30 true 0 (.pointer (some g)) ?_;refine gV 30 true 11 38 ?_;refine gV 30 true 12 39 ?_;refine sG 30 true (fun _ d a _ _ _ b _ _ _ c=>?_) ?_
   · have a3:_=_:=b 13 40 kR rfl;replace a:(VB e) w1 d:=bD a;have v:=a.1.bk q.out.blk dC dC;have r:=v.cell 0;go_simp;exact c _ _ vR rfl
   refine sG 30 true (fun _ d a _ _ _ b _ _ _ c=>?_) ?_
   · have a4:_=_:=b 14 41 kR rfl;replace a:(VB e) w1 d:=bD a;go_simp;refine (L.out d a).mono ?_;rintro s a8 ⟨rfl,rfl⟩;exact c _ _ vR rfl
   refine sG 30 true (fun _ _ _ _ _ _ b _ _ _ c=>?_) ?_
   · have a2:_=_:=b 10 37 kR rfl;have a5:_=_:=b 15 42 kR rfl;go_simp;exact c _ _ vR (by first | rfl | exact congrArg (Value.int .i64) H.out)
   refine sG 30 true (fun _ _ _ _ _ _ b _ _ _ c=>?_) ?_
   · have a0:_=_:=b 6 33 kR rfl;have a6:_=_:=b 16 43 kR rfl;go_simp;exact c _ _ vR (by first | rfl | exact congrArg Value.bool I.out)
   refine pW 3 30 17 44 ?_;refine pV 18 45 ?_;exact aH
 · intro R X a b;replace a:(VB e) w1 X:=bD a;have C:R (.tmp 26)=.bool true:=b 19 26 rfl;simp only [zqq];rw [C];clear b;clear C;have K:=lhd (VisK.trans (VisK.of_below M.out) a);clear a;go_wp2_with fail;go_ret;exact ⟨rfl,K.out⟩
def xQ (c:Nat) (own:Nat->Nat) (e q K A C:Nat) (k:List UInt8) (b d:Nat) (L:Option Addr) (Y O:Nat) (o:World) (v:StAt o c own e q K A k) (R:TabW o) (D:7 < c) (E:k.length=C) (aM:b+d<=C):
 Calls prog 42 #[e,.agg #[.int .i64 2,(b:Int),(d:Int),.slice L Y O]] o (aD2 o c own e q K A (k.take b++k.drop (b+d))):=by
 have n:=EdW.mk' 2 (b:Int) (d:Int) L Y O v;have ae:=LFS.of_below c e own n.low;have U:=kP c own e q K A C k b d _ n.st E;have ad:jV C (b:Int) (d:Int)=true:=zBz oM;rw [ad] at U;have P:=n.box.cell 0;have av:=n.box.cell 1;have Q:=n.box.cell 2;have aw:=n.box.cell 3;have aA:=v.n127;have W:=v.len;rw [E] at aA W;have aa:=R.below n.low R.pos;obtain ⟨y,aq,a2,Z,a3,a0,a1,au⟩:=hqq8 n.st ae n.ap U n.box E aa W;clear v n ae U ad E R aa W;go_enter func42,ntmps42;go_wp2_with fail;refine Z.out.mono ?_;rintro ax w1 ⟨rfl,rfl⟩;clear Z;go_wp2_with fail;generalize o.alloc (.cells #[.int .i64 2,(b:Int),(d:Int),.slice L Y O] 58)=w1 at*
 clear P av Q aw;refine wp_region_any kR ?_;refine aX [27,28,29,30,31,32,33,34,35,36,37,38,39,40,41,42,43,44,45,26] (VB c) (Vs [is o.heap.size,is (.int .i64 2),is (.bool false),is (.bool false),is undef,is undef,is undef,is undef,is undef,is undef,is undef,is undef,is undef,is undef,is undef,is undef,is undef,is undef,is (.bool false),is (.bool false)]) _ _ rfl kR vR (fun _ _=>VisK.trans) (cM tA0) ?_ ?_
 · refine aR ?_;refine pH 3 (.pointer (some o.heap.size)) ?_;refine sC (fun _ s a _ _ _ l _ _ _ u=>?_) ?_
   · have aG:_=_:=l 0 27 kR rfl;replace a:(VB c) w1 s:=bD a;have S:=a.1.bk a3.out dC dC;have a8:=S.cell 0;go_simp;exact u _ _ vR rfl
   refine pV 1 28 ?_;refine pV 2 29 ?_;refine aC ?_ ?_;exact sK 30 false fun _=>vR;refine aC ?_ ?_;exact sK 30 false fun _=>vR;refine aC ?_ ?_;exact sK 30 false fun _=>vR;refine aC ?_ ?_;exact sK 30 false fun _=>vR;refine aC ?_ ?_;exact sK 30 false fun _=>vR;refine aC ?_ ?_;exact sK 30 false fun _=>vR;refine aC ?_ ?_;exact sK 30 false fun _=>vR;refine aC ?_ ?_;exact sK 30 false fun _=>vR;refine aC ?_ ?_;exact sK 30 false fun _=>vR;refine aC ?_ ?_;exact sK 30 false fun _=>vR;refine aC ?_ ?_;exact sK 30 false fun _=>vR;refine aC ?_ ?_;exact sK 30 false fun _=>vR;refine aC ?_ ?_;exact sK 30 false fun _=>vR;refine aC ?_ ?_;exact sK 30 false fun _=>vR;refine pW 3 30 17 44 ?_;refine pV 18 45 ?_;exact aH
 · intro z t a l;replace a:(VB c) w1 t:=bD a;have a9:z (.tmp 26)=.bool false:=l 19 26 rfl;simp only [zqq];rw [a9];clear l;have aj:=y.out.vb a.1;have ah:=LFS.of_vb e own a;have F:=a.1.bk a3.out dC dC;have P:=F.cell 0;have Q:=F.cell 2;obtain ⟨a7,ar,am,ao⟩:=hqq4 aj (aq.out.trans ah) (a1.out.vb a D a1.out.pos) F;clear aj ah F a a9;go_wp2_with fail;clear P Q;go_loopw [52] (fun J wr=>∃(g:Nat) (x:Nat->Nat),g<=d/\J=.int .i64 (g:Int)/\StAt wr c x e q K A (k.take b++k.drop (b+g))/\LFS c e t wr own x) (fun J _=>d -(intOf J).toNat)
   case atStart=>exact ⟨0,own,by omega,rfl,by rw [zBq,zAu];exact a7.out,LFS.refl _ _ _ _⟩
   case round=>
    obtain ⟨g,x,aK,rfl,r,w⟩:=hrel;by_cases aL:g < d
    · have ai:b+g < k.length:=(by rw [a0.out];omega);have H:=aEu k (p:=b) (j:=g) oM;have V:=aEu k (p:=b) (j:=g+1) oM;rw [a0.out] at H V;have G:=fun s (d:VB c wr s)=>aCz s c x q (k.take b++k.drop (b+g)) A b (r.vb d.1).live ((am.out.below (w.below a7.out.size) D).vb d D (by have:=r.size;omega)) D (by rw [H];omega) (by rw [H];omega) r.r1 r.r2;unfold aA3 at G;rw [aHo k ai] at G;have ac:=w.bk ao.out a2.out.col a2.out.ne dC dC;obtain ⟨an,y,a6,a4,a5⟩:=hqq5 ac r w G V;clear r w G H V ac ai;go_wp2_with fail;refine wp_region_any kR ?_;refine bN c 6 [54,55,56,57,58,59] (fun _=>False) 3 [] (fun _=>True) (fun B _=>B=.pointer (some q)) [is e,is e,is e,dF,is (.pointer (some ⟨o.heap.size,1,none⟩)),is (b:Int)] _ _ rfl dC kR kR kR (trivial) (fun _ _ _ _ _=>trivial) (fun _ _ _ v _=>v) tA0 ?_ ?_
      · refine bO ?_;refine pH3 0 (.pointer (some e)) ?_;refine pV3 0 54 ?_;refine pV3 1 55 ?_;refine sC3 (fun _ s a _ _ _ _ l _ _ _ u=>?_) ?_
        · replace a:VFB c (fun _=>False) wr s:=fD a;have aI:_=_:=l 2 56 kR rfl;have X:=a.to_vb (fun _ _ m=>m);have az:=X.1.bk y.out.blk dC dC;have a8:=az.cell 0;go_simp;exact u _ _ (iW (VFB.of_vb vR)) rfl
        refine pH3 3 (.pointer (some o.heap.size)) ?_;refine sC3 (fun _ s a _ _ _ _ l _ _ _ u=>?_) ?_
        · replace a:VFB c (fun _=>False) wr s:=fD a;have aJ:_=_:=l 4 58 kR rfl;have X:=a.to_vb (fun _ _ m=>m);have S:=X.1.bk an.out dC dC;have a8:=S.cell 1;go_simp;exact u _ _ (aE vR) rfl
        exact aH
      · intro z t m a l ab;replace a:VFB c (fun _=>False) wr t:=fD a;have ak:(fun B _=>B=.pointer (some q)) (z (.tmp 57)) t:=l 3 57 dC rfl;have ay:z (.tmp 59)=.int .i64 (b:Int):=l 5 59 dC rfl;obtain ⟨aF,al⟩:=ab 3 dC;have aD:(fun B _=>B=.pointer (some q)) aF t:=al;clear al ab;simp only [zqq];rw [ay];clear l;have I:=a.to_vb (fun _ _ m=>m);rw [show z (.tmp 57)=_ from ak];clear aD a ak;change wpAny prog Region.Mode.any _ _ (1+m) (bY 6 7) _ t;rw [zCs 1 m];refine bS (f:=m) (i:=6) kR ?_;refine cG rfl rfl ?_;generalize u:wpAny prog _ _ _ m _=K5;go_simp;refine (a4.out t I).mono ?_;rintro ax aN ⟨rfl,aB,af,ag⟩;subst u;refine cD kR ?_;have T:=(y.out.vb I.1).edited af ag (by rw [a5.out];omega) (by rw [a5.out];have:=au.out;omega);obtain ⟨N,M⟩:=hqq2 T.1 (a6.out.trans ((LFS.of_vb e x I).trans T.2));clear T af ag I y a6 a4;go_wp2_with fail;go_roundw
        case rel=>exact ⟨g+1,aB,by omega,by go_num,N.out,M.out⟩
        case measure=>simp [intOf];omega
    · obtain rfl:g=d:=oM;obtain ⟨N,M⟩:=hqq2 r (ar.out.trans w);clear r w;go_wp2_with fail;go_ret;exact ⟨rfl,x,N.out,M.out⟩
def xO (d:Nat) (own:Nat->Nat) (g t P C G:Nat) (k l:List UInt8) (c:Nat) (a6:Int) (E:Option Addr) (n S:Nat) (q:World) (z:StAt q d own g t P C k) (W:TabW q) (I:7 < d) (J:k.length=G) (U:ArgZ q d own g E n l) (b9:c+n<=G):
 Calls prog 42 #[g,.agg #[.int .i64 3,(c:Int),.int .i64 a6,.slice E n S]] q (aD2 q d own g t P C (k.take c++(l++k.drop (c+l.length)))):=by
 have V:l.length=n:=by simpa using U.1.1
 rw [V];have m:=EdW.mk' 3 (c:Int) a6 E n S z;have aj:=U.vis m.low;have ao:=LFS.of_below d g own m.low;have a1:=kP d own g t P C G k c n _ m.st J;have an:jV G (c:Int) (n:Int)=true:=zBz oM;rw [an] at a1;have H:=m.box.cell 0;have aN:=m.box.cell 1;have aO:=m.box.cell 2;have T:=m.box.cell 3;have aV:=z.n127;have a4:=z.len;rw [J] at aV a4;have ak:=W.below m.low W.pos;obtain ⟨B,aB,aJ,aa,a7,ab,a8,F,a9⟩:=hqq9 m.st aj ao m.ap a1 m.box J V ak;have aL:=lhd a4;clear z U m aj ao a1 an J V W ak a4;go_enter func42,ntmps42;go_wp2_with fail;refine a7.out.mono ?_;rintro aP w1 ⟨rfl,rfl⟩;clear a7;go_wp2_with fail;generalize q.alloc (.cells #[.int .i64 3,(c:Int),.int .i64 a6,.slice E n S] 58)=w1 at*
 clear H aN aO T;refine wp_region_any kR ?_;refine aX [27,28,29,30,31,32,33,34,35,36,37,38,39,40,41,42,43,44,45,26] (VB d) (Vs [is q.heap.size,is (.int .i64 3),is (.bool false),is (.bool false),is undef,is undef,is undef,is undef,is undef,is undef,is undef,is undef,is undef,is undef,is undef,is undef,is undef,is undef,is (.bool false),is (.bool false)]) _ _ rfl kR vR (fun _ _=>VisK.trans) (cM tA0) ?_ ?_
 · refine aR ?_;refine pH 3 (.pointer (some q.heap.size)) ?_;refine sC (fun _ u b _ _ _ e _ _ _ r=>?_) ?_
   · have b2:_=_:=e 0 27 kR rfl;replace b:(VB d) w1 u:=bD b;have Z:=b.1.bk ab.out dC dC;have ag:=Z.cell 0;go_simp;exact r _ _ vR rfl
   refine pV 1 28 ?_;refine pV 2 29 ?_;refine aC ?_ ?_;exact sK 30 false fun _=>vR;refine aC ?_ ?_;exact sK 30 false fun _=>vR;refine aC ?_ ?_;exact sK 30 false fun _=>vR;refine aC ?_ ?_;exact sK 30 false fun _=>vR;refine aC ?_ ?_;exact sK 30 false fun _=>vR;refine aC ?_ ?_;exact sK 30 false fun _=>vR;refine aC ?_ ?_;exact sK 30 false fun _=>vR;refine aC ?_ ?_;exact sK 30 false fun _=>vR;refine aC ?_ ?_;exact sK 30 false fun _=>vR;refine aC ?_ ?_;exact sK 30 false fun _=>vR;refine aC ?_ ?_;exact sK 30 false fun _=>vR;refine aC ?_ ?_;exact sK 30 false fun _=>vR;refine aC ?_ ?_;exact sK 30 false fun _=>vR;refine aC ?_ ?_;exact sK 30 false fun _=>vR;refine pW 3 30 17 44 ?_;refine pV 18 45 ?_;exact aH
 · intro y v b e;replace b:(VB d) w1 v:=bD b;have ai:y (.tmp 26)=.bool false:=e 19 26 rfl;simp only [zqq];rw [ai];clear e;have av:=B.out.vb b.1;have a3:=LFS.of_vb g own b;have K:=b.1.bk ab.out dC dC;have H:=K.cell 0;have T:=K.cell 3;obtain ⟨af,aK,aD,aF,aI⟩:=hqq5 av (aJ.out.trans a3) (aB.out.step a3) (a9.out.vb b I a9.out.pos) K;clear av a3 K b ai;go_wp2_with fail;clear H T;go_loopw [6,7,65] (fun _ _ O wr=>∃(a:Nat) (A:Nat->Nat),a<=n/\O=.int .i64 (a:Int)/\StAt wr d A g t P C (k.take c++(l.take a++k.drop (c+a)))/\LFS d g v wr own A) (fun _ _ O _=>n -(intOf O).toNat)
   case atStart=>exact ⟨0,own,by omega,rfl,by rw [List.take_zero,List.nil_append,zBq,zAu];exact af.out,LFS.refl _ _ _ _⟩
   case round=>
    obtain ⟨a,A,b8,rfl,s,x⟩:=hrel;by_cases aU:a < n
    · obtain ⟨w,X⟩:∃w,l[a]?=some w:=⟨_,zAa (by rw [F.out];exact aU)⟩;have au:c+a < k.length:=(by rw [a8.out];omega);have L:=aD8 k l (p:=c) (j:=a) (by rw [F.out];omega) oM;have a2:=aD8 k l (p:=c) (j:=a+1) (by rw [F.out];omega) oM;rw [a8.out] at L a2;have M:=fun u (ax:VB d wr u)=>aHJ u d A t (k.take c++(l.take a++k.drop (c+a))) C (c+a) w (s.vb ax.1).live ((aF.out.below (x.below af.out.size) I).vb ax I (by have:=s.size;omega)) I (by rw [L];omega) (by rw [L];omega) s.r1 s.r2;unfold aA3 at M;rw [aGs k l X au] at M;obtain ⟨aM,aW,rfl,b7,am⟩:=((aD.out.step x).1).2 oM;have b1:wr.cell? ⟨aM,aW+a,none⟩=some (.int .u8 (w.toNat:Int)):=am a _ (by rw [zAf,X];rfl);have Y:=x.bk aI.out aa.out.col aa.out.ne dC dC;have aG:=lhd Y;have H:=Y.cell 0;have ah:IntKind.i64.wrap ((c:Int)+(a:Int))=((c+a:Nat):Int):=(by rw [IntKind.wrap_i64];omega);obtain ⟨B,ad,ae,ac,aA⟩:=hqq5 s x M a2 ah;clear ah s x M L a2 X am Y au;go_wp2_with fail;refine wp_region_any kR ?_;refine bN d 9 [73,74,75,76,77,78,79,80,81] (fun _=>False) 3 [] (fun _=>True) (fun D _=>D=.pointer (some t)) [is g,is g,is g,dF,is (.pointer (some ⟨q.heap.size,1,none⟩)),is (c:Int),is (a:Int),is (.int .i64 ((c+a:Nat):Int)),is (.int .u8 (w.toNat:Int))] _ _ rfl dC kR kR kR (trivial) (fun _ _ _ _ _=>trivial) (fun _ _ _ z _=>z) tA0 ?_ ?_
      · refine bO ?_;refine pH3 0 (.pointer (some g)) ?_;refine pV3 0 73 ?_;refine pV3 1 74 ?_;refine sC3 (fun _ u b _ _ _ _ e _ _ _ r=>?_) ?_
        · replace b:VFB d (fun _=>False) wr u:=fD b;have b3:_=_:=e 2 75 kR rfl;have a5:=b.to_vb (fun _ _ o=>o);have aT:=a5.1.bk B.out.blk dC dC;have ag:=aT.cell 0;go_simp;exact r _ _ (iW (VFB.of_vb vR)) rfl
        refine pH3 3 (.pointer (some q.heap.size)) ?_;refine sC3 (fun _ u b _ _ _ _ e _ _ _ r=>?_) ?_
        · replace b:VFB d (fun _=>False) wr u:=fD b;have b4:_=_:=e 4 77 kR rfl;have a5:=b.to_vb (fun _ _ o=>o);have Z:=a5.1.bk aG.out dC dC;have ag:=Z.cell 1;go_simp;exact r _ _ (aE vR) rfl
        refine pH3 6 (.int .i64 (a:Int)) ?_;refine sC3 (fun _ _ _ _ _ _ _ e _ _ _ r=>?_) ?_
        · have b5:_=_:=e 5 78 kR rfl;have b6:_=_:=e 6 79 kR rfl;go_simp;exact r _ _ (aE vR) (by first | rfl | exact congrArg (Value.int .i64) aA.out)
        refine pH3 7 (.int .u8 (w.toNat:Int)) ?_;exact aH
      · intro y v o b e al;replace b:VFB d (fun _=>False) wr v:=fD b;have ay:(fun D _=>D=.pointer (some t)) (y (.tmp 76)) v:=e 3 76 dC rfl;have aQ:y (.tmp 80)=.int .i64 ((c+a:Nat):Int):=e 7 80 dC rfl;have aS:y (.tmp 81)=.int .u8 (w.toNat:Int):=e 8 81 dC rfl;obtain ⟨b0,az⟩:=al 3 dC;have aZ:(fun D _=>D=.pointer (some t)) b0 v:=az;clear az al;simp only [zqq];rw [aQ];rw [aS];clear e;have N:=b.to_vb (fun _ _ o=>o);rw [show y (.tmp 76)=_ from ay];clear aZ b ay;change wpAny prog Region.Mode.any _ _ (1+o) (bY 9 10) _ v;rw [zCs 1 o];refine bS (f:=o) (i:=9) kR ?_;refine cG rfl rfl ?_;generalize r:wpAny prog _ _ _ o _=K5;go_simp;refine (ae.out v N).mono ?_;rintro aP ba ⟨rfl,aY,aq,ar⟩;subst r;refine cD kR ?_;have a0:=(B.out.vb N.1).edited aq ar (by rw [ac.out];omega) (by rw [ac.out];have:=aL.out;omega);obtain ⟨R,Q⟩:=hqq2 a0.1 (ad.out.trans ((LFS.of_vb g A N).trans a0.2));clear a0 aq ar N B ad ae;go_wp2_with fail;go_roundw
        case rel=>exact ⟨a+1,aY,by omega,by go_num,R.out,Q.out⟩
        case measure=>simp [intOf];omega
    · obtain rfl:a=n:=oM;have aw:l.take a=l:=zAg (by rw [F.out];exact zAs _);rw [aw] at s;clear aw;obtain ⟨R,Q⟩:=hqq2 s (aK.out.trans x);clear s x;go_wp2_with fail;go_ret;exact ⟨rfl,A,R.out,Q.out⟩
def StAt.save {d:World} {e l f c g:Nat} {own:Nat->Nat} {b:List UInt8} {i:List Nat} (a:StAt d e own l f c g b) (p:IsSuf (aI b) i):
 Calls prog 73 #[f,(c:Int)] d (gG d e (fA (aF (aI b) i) i c g b.length)):=by
 obtain ⟨r,gk,k,q,j,m,o,s,n⟩:=a.tp;obtain rfl:=j.unique p;exact qP e f gk k g c b r q d m o j n a.r1 a.r2 a.len a.max
def aDP (m:Nat) (own:Nat->Nat) (l u s t:Nat) (p:List UInt8) (q:List Nat) (e:World) (v:StAt e m own l u s t p) (F:IsSuf (aI p) q):
 Calls prog 40 #[l] e (gG e m (fA (aF (aI p) q) q s t p.length)):=by
 have x:∀w1,VB m e w1->Calls prog 73 #[u,(s:Int)] w1 (gG w1 m (fA (aF (aI p) q) q s t p.length)):=fun w1 z=>(v.vb z.1).save F;obtain ⟨n,D⟩:=eqx (fA (aF (aI p) q) q s t p.length);rw [D] at x⊢;obtain ⟨g,f⟩:=eqx n.length;obtain ⟨K,B,C⟩:=hqq3 x f v.blk;clear x v F D f;unfold gG;rw [B.out];go_enter func40,ntmps40;go_wp2_with fail;refine wp_region_any kR ?_;refine aX [6,7,8,9,10,11,12,13,14,15,16,2,3] (VB m) (Vs [is l,is l,is l,is u,is l,is l,is (.pointer (some ⟨l,1,none⟩)),is (s:Int),fun i j=>∃a b,i=.tuple #[.slice a g b,.int .i64 0]/\Made j e.heap.size 5 1 a g b (n.map bv),fun i j=>∃a b,i=.slice a g b/\Made j e.heap.size 5 1 a g b (n.map bv),is (.int .i64 0),fun i j=>∃a b,i=.slice a g b/\Made j e.heap.size 5 1 a g b (n.map bv),is (.int .i64 0)]) _ _ rfl kR vR (fun _ _=>VisK.trans) (cM (by repeat' (first | exact gP _ _ | exact iY _ | exact fun _ _ _ ⟨H,L,Q,R⟩ z=>⟨H,L,Q,z.1.made R dC dC⟩|(refine zAe.2 ⟨?_,?_⟩)|(intro a2 S;cases S)))) ?_ ?_
 · refine aR ?_;refine pH 0 (.pointer (some l)) ?_;refine pV 0 6 ?_;refine pV 1 7 ?_;refine sC (fun _ k c _ _ _ d _ _ _ f=>?_) ?_
   · have a0:_=_:=d 2 8 kR rfl;replace c:(VB m) e k:=bD c;have w:=c.1.bk C.out dC dC;have M:=w.cell 0;go_simp;exact f _ _ vR rfl
   refine pH 0 (.pointer (some l)) ?_;refine pV 4 10 ?_;refine pV 5 11 ?_;refine sC (fun _ k c _ _ _ d _ _ _ f=>?_) ?_
   · have X:_=_:=d 6 12 kR rfl;replace c:(VB m) e k:=bD c;have w:=c.1.bk C.out dC dC;have M:=w.cell 1;go_simp;exact f _ _ vR rfl
   refine sC (fun _ k c _ _ _ d _ _ _ f=>?_) ?_
   · have a1:_=_:=d 3 9 kR rfl;have Y:_=_:=d 7 13 kR rfl;replace c:(VB m) e k:=bD c;go_simp;have y:=K.out k c;unfold gG at y;rw [B.out] at y;refine y.mono ?_;rintro W a3 ⟨a,b,rfl,r,T⟩;exact f _ _ T ⟨a,b,rfl,r.mono c.1.size⟩
   refine sC (fun o k _ _ _ _ d _ _ _ f=>?_) ?_
   · have A:(fun i j=>∃a b,i=.tuple #[.slice a g b,.int .i64 0]/\Made j e.heap.size 5 1 a g b (n.map bv)) (o (.tmp 14)) k:=d 8 14 kR rfl;obtain ⟨a,b,N,r⟩:=A;go_simp;exact f _ _ vR ⟨a,b,rfl,r⟩
   refine sC (fun o k _ _ _ _ d _ _ _ f=>?_) ?_
   · have A:(fun i j=>∃a b,i=.tuple #[.slice a g b,.int .i64 0]/\Made j e.heap.size 5 1 a g b (n.map bv)) (o (.tmp 14)) k:=d 8 14 kR rfl;obtain ⟨a,b,N,r⟩:=A;go_simp;exact f _ _ vR rfl
   refine sC (fun o k _ _ _ _ d _ _ _ f=>?_) ?_
   · have U:(fun i j=>∃a b,i=.slice a g b/\Made j e.heap.size 5 1 a g b (n.map bv)) (o (.tmp 15)) k:=d 9 15 kR rfl;obtain ⟨a,b,Z,r⟩:=U;go_simp;exact f _ _ vR ⟨a,b,rfl,r⟩
   refine pV 10 16 ?_;exact aH
 · intro o G c d;replace c:(VB m) e G:=bD c;have V:(fun i j=>∃a b,i=.slice a g b/\Made j e.heap.size 5 1 a g b (n.map bv)) (o (.tmp 2)) G:=d 11 2 rfl;have P:o (.tmp 3)=.int .i64 0:=d 12 3 rfl;simp only [zqq];rw [P];clear d;obtain ⟨a,b,O,E⟩:=V;rw [O];obtain ⟨J,I⟩:=hqq2 E c;clear E c;go_wp2_with fail;go_ret2;exact ⟨a,b,rfl,J.out,I.out⟩
section
open Go
def rG {u:Program} {c:Array Oper} {v:Exit->Act->World->Prop} {m:Region.Mode} (e:Nat) (w:List Nat) (j:Nat->Prop) (d:Nat) (y:List Nat) (s:World->Prop) (r:Value->World->Prop) (q:List (Value->World->Prop)) (n:Act) (k:World)
 (J:(c.toList.take e).filterMap (·.dst)=w) (M:e<=c.size) (L:hQ m c n.tmps.size=true) (S:((List.range c.size).all fun g=>decide (g < e)||(List.range e).all fun a=>upB m c c.size g a)=true)
 (P:(y.all fun a=>a==d||upB m c c.size d a)=true)
 (O:s k) (N:∀b i,s b->Keep j k b->Grow b i->s i) (I:Stb r) (Q:∀U∈q,xM j U)
 (R:∀l E,l < e->c[l]?=some E->cT u c v m (Keep j k) (nX j d) (fun a b=>y.contains a=true->s b) (VsJ d r q) n l E)
 (K:∀(A:Operand->Value) b f,Keep j k b->(∀a z,a < e->((c[a]?).bind (·.dst))=some z->VsJ d r q a (A (.tmp z)) b)->(∀a,a < e->∃t,VsJ d r q a t b)->wpAny u m c v (c.size - e+f) (bY e c.size) (dB A w n) b):
 wpAny u m c v c.size (Array.replicate c.size false) n k:=by
 refine sI e w (Keep j k) (nX j d) (fun a b=>y.contains a=true->s b) (VsJ d r q) n k J M L S (Keep.refl _ _) (fun _ _=>O) (fun l b i _ G g=>G.trans (iT g)) (fun a l b i _ x T o H g C=>?_) (fun a l t b i _ x _ p _ g=>?_) R K;by_cases D:l=d;exfalso;subst D;have B:=zBf.1 P a (by simpa using C);simp only [T,Bool.or_false,zCq] at B;exact x B;exact N b i (o C) H (g.2 D);unfold VsJ at p⊢;by_cases o:a=d;rw [zBx o] at p⊢;exact I t b i p (g.2 fun F=>x (o.trans F.symm));rw [zBw o] at p⊢;exact uA Q a t b i p (iT g)
end
def aHG (k:World) (a:Nat) (own:Nat->Nat) (b g i:Nat) (j:List UInt8) (e:Ending) (d:World):Prop:=
 e=.returned (.int .i64 0)/\∃c f,StAt d a c b f g i j/\LFS a b k d own c
def aDQ (s:Nat) (own:Nat->Nat) (b U C ar d g:Nat) (G:Option Addr) (D u:Nat) (au e:List UInt8) (n:List Nat) (j:World) (k:StAt j s own b U C ar au) (an:IsSuf (aI e) n) (a1:e.length<=127)
 (a3:1<=g) (a4:g<=64) (Z:e.length<=d) (a0:d<=2147483648) (N:(fA (aF (aI e) n) n d g e.length).length=D) (a2:Rd j j.heap.size 1 G D ((fA (aF (aI e) n) n d g e.length).map bv)) (aj:D<=u) (ak:u<=maxLen):
 Calls prog 46 #[b,.slice G D u] j (aHG j s own b d g e):=by
 have A:=aAN G u j.heap.size d g e n j an a1 a3 a4 Z a0 (by rw [N];exact a2) nL (by rw [N];exact aj) ak;rw [N] at A;unfold wT at A;obtain ⟨R,H⟩:=hqq2 A k;clear A a2 k;go_enter func46,ntmps46;go_wp2_with fail;refine R.out.mono ?_;rintro aB w1 ⟨q,rfl,⟨a6,a5⟩,B⟩;have aL:=B.1.size;have S:=lhd B;have M:=B.1.bk H.out.blk dC dC;have X:=H.out.blk.lt;obtain ⟨w,am⟩:=eqx w1.heap.size;have x:Below w1.heap.size w1 (w1.alloc (.cells #[(d:Int),(g:Int),(e.length:Int)] 129)):=bR.alloc nL _;have Y:Bk (w1.alloc (.cells #[(d:Int),(g:Int),(e.length:Int)] 129)) w 129 #[(d:Int),(g:Int),(e.length:Int)]:=am ▸ Bk.new _ _ _;have W:=M.below x M.lt;obtain ⟨I,t,P,Q,ab⟩:=hqq5 (a5.vis (Vis.of_below x)) x W Y (show ¬w=b by omega);clear a5 B R x Y M W;unfold pY;go_wp2_with fail;generalize af:w1.alloc (.cells #[(d:Int),(g:Int),(e.length:Int)] 129)=W1 at I t P Q⊢;clear af;refine wp_region_any kR ?_;refine rG 10 [18,19,20,21,22,23,24,25,26] (fun a=>a=b) 7 [7] (fun o=>Bk o b 47 #[U,(C:Int)]) (fun _ o=>Bk o b 47 #[q,.int .i64 (C:Int)]) [is b,is b,is q,is w,is (d:Int),is b,is b,dF,is b,is (.pointer (some ⟨b,1,none⟩))] _ _ rfl dC kR kR kR (P.out) (fun w1 o k _ al=>Bk.below k al k.lt) (fun _ _ _ k ao=>Bk.below k ao k.lt) tA1 ?_ ?_
 · refine bO ?_;refine pH3 0 (.pointer (some b)) ?_;refine pH3 0 (.pointer (some b)) ?_;refine pH3 5 (.pointer (some q)) ?_;refine pH3 6 (.pointer (some w)) ?_;refine sC3 (fun _ aw m _ _ _ _ l _ _ _ r=>?_) ?_
   · replace m:Keep (fun a=>a=b) W1 aw:=kD m;have aD:_=_:=l 3 21 kR rfl;have aA:=(Keep.bk m Q.out ab.out).cell 0;go_simp;exact kq r rfl
   refine pV3 0 18 ?_;refine pV3 5 23 ?_;refine sC3 (fun _ _ _ ae _ _ _ l _ _ _ r=>?_) ?_
   · have O:=ae rfl;have aE:_=_:=l 6 24 kR rfl;have aC:_=_:=l 2 20 kR rfl;have aJ:=O.frozen 0;have az:=O.cell 0;go_simp;exact r (.bool true) _ (bC (Keep.setCell (F:=fun a=>a=b) (Keep.refl _ _) (p:=b) (.inl rfl) _)) (O.set 0 _)
   refine pV3 1 19 ?_;refine pV3 8 25 ?_;exact aH
 · intro T E c m l V;replace m:Keep (fun a=>a=b) W1 E:=kD m;have ac:T (.tmp 22)=.int .i64 (d:Int):=l 4 22 dC rfl;have ad:T (.tmp 26)=.pointer (some ⟨b,1,none⟩):=l 9 26 dC rfl;simp only [zqq];rw [ac];rw [ad];clear l;obtain ⟨av,a7⟩:=V 7 dC;have aq:(fun _ o=>Bk o b 47 #[q,.int .i64 (C:Int)]) av E:=a7;clear a7 V;have y:=aq;have aG:=y.frozen 1;have ay:=y.cell 1;obtain ⟨a8,aa⟩:=hqq2 y m;clear y;change wpAny prog Region.Mode.any _ _ (1+c) (bY 10 11) _ E;rw [zCs 1 c];refine bS (f:=c) (i:=10) kR ?_;refine cG rfl rfl ?_;generalize r:wpAny prog _ _ _ c _=K5;go_simp;subst r;refine cD kR ?_;have z:Keep (fun a=>a=b) W1 (E.setCell ⟨b,1,none⟩ (.int .i64 (d:Int))):=aa.out.setCell (p:=⟨b,1,none⟩) (.inl rfl) _;have ag:=a8.out.set 1 (.int .i64 (d:Int));obtain ⟨ax,a9⟩:=hqq2 z ag;have K:=H.out;go_wp2_with fail;go_ret;have aK:=t.out.size;have ai:=K.size;have ah:=I.out.bnd;have J:∀a,a < j.heap.size->a6 a=0:=fun a L=>Nat.eq_zero_of_not_pos fun c=>by have:=(ah a oM).1;omega
   refine ⟨rfl,a6,q,⟨a9.out,K.low,J _ X,(I.out.far0 z (fun a c=>by have v:a=b:=c;subst v;exact J _ X)).low ai,a1,Z,a0,a3,a4⟩,⟨fun a L c=>absurd (J a L) c,?_,?_⟩⟩;exact ((VisF.of_vis S.out.1).trans' (VisF.of_vis (Vis.of_below t.out)) (fun a _ c=>c)).trans' (VisF.of_keep z) (fun a _ c=>.inr c)
   · have ap:Keep (fun a=>s<=a) j w1:=S.out.2.mono fun a L c=>by have v:j.heap.size<=a:=c;show s<=a;omega
     exact (ap.trans (Keep.of_below t.out)).trans (z.mono fun a _ c=>by have v:a=b:=c;subst v;exact K.low)
end Go.Proofs.YtcfpmjbojoidoaaGreatDoor
