/- Lemmas of the walk. Conditions: each its own. -/
import Derived.Test.YtcoooelofcejbaaGreatDoorPd30
import Derived.Test.YtcoooelofcejbaaGreatDoorProg
import Derived.Test.YtcoooelofcejbaaGreatDoorShl
import Derived.Test.YtcoooelofcejbaaGreatDoorSht
import Derived.Test.YtcoooelofcejbaaGreatDoorShi
set_option linter.all false
set_option maxRecDepth 100000
set_option maxHeartbeats 1000000
open Go.Proofs.Tryz
namespace Go.Proofs.YtcoooelofcejbaaGreatDoor
open Go.RowKit
def aE6 (d a c:Nat) (b:Nat->Prop):Nat->Nat->Prop
 | 0=>b
 | j+1=>aKP d (a+j) (c+j) (aE6 d a c b j)
def aFf (d a c:Nat) (b:Nat->Prop):Nat->Nat->Prop
 | 0=>b
 | j+1=>aKR d (a - j - 1) c (aFf d a c b j)
def aEH (l:World) (a:Nat) (own:Nat->Nat) (b i j k:Nat) (f:List UInt8) (e:Nat->Prop) (g:Ending) (d:World):Prop:=
 g=.returned (.int .i64 0)/\∃c,StAt d a c b i j k f e/\LFS a b l d own c
def StAt.edited {n m:Nat->Prop} {l f:World} {b c g j k:Nat} {own d:Nat->Nat} {s e:List UInt8} (a:StAt l b own c g j k s n) (q:LiveE f b d g e k m) (i:LF b l f own d) (p:e.length<=127) (r:e.length<=j):StAt f b d c g j k e m/\LFS b c l f own d:=
 ⟨⟨i.vis.bk a.blk dC dC (fun o=>o a.col),a.low,(i.old _ a.blk.lt).trans a.col,q,p,r,a.max,a.r1,a.r2⟩,LFS.of_lf c i⟩
structure EdW (w W:World) (B:Nat) (own:Nat->Nat) (gs gl most rate:Nat) (t:List UInt8) (Q:Nat->Prop) (kind p n:Int) (A:Option Addr) (m c:Nat):Prop where
 low:Below w.heap.size w W
 box:Bk W w.heap.size 57 #[.int .i64 kind,.int .i64 p,.int .i64 n,.slice A m c]
 st:StAt W B own gs gl most rate t Q
 ap:Ap own gs w.heap.size
def EdW.mk' {k:Nat->Prop} {a:World} {j:Nat} {own:Nat->Nat} {m l o p:Nat} {q:List UInt8} (e i g:Int) (b:Option Addr) (f c:Nat) (d:StAt a j own m l o p q k):
 EdW a (a.alloc (.cells #[.int .i64 e,.int .i64 i,.int .i64 g,.slice b f c] 57)) j own m l o p q k e i g b f c:=by
 have n:Below a.heap.size a (a.alloc (.cells #[.int .i64 e,.int .i64 i,.int .i64 g,.slice b f c] 57)):=bR.alloc nL _;exact ⟨n,Bk.new a _ _,d.vb (Vis.of_below n),⟨d.fresh nL,by have:=d.blk.lt;omega⟩⟩
def uF {a2:Nat->Prop} {d:Nat} {own:Nat->Nat} {e v s x:Nat} (m:Nat) {n p:List UInt8} (k:Nat) (ah:Int) {G:Option Addr} {o:Nat} (O:Nat) (j:Bool) {q:World} (D:StAt q d own e v s x n a2) (a6:n.length=m) (a5:ArgZ q d own e G o p) (ba:k<=m) (ad:decide (s < m+o)=j) (a4:j=false->m+o<=127):
 Calls prog 49 #[e,.agg #[.int .i64 1,(k:Int),.int .i64 ah,.slice G o O]] q fun I aM=>(j=true->I=.returned (.int .i64 3)/\VB d q aM)/\(j=false->aEH q d own e v s x (uJ n k p) (aE6 x m k a2 o) I aM):=by
 have aw:p.length=o:=by simpa using a5.1.1
 have r:=EdW.mk' 1 (k:Int) ah G o O D;have av:=a5.vis r.low;have aA:=LFS.of_below d e own r.low;have aa:=oO (B:=d) (own:=own) (gs:=e) (gl:=v) (most:=s) (rate:=x) (N:=m) (t:=n) k 0 r.st a6;have az:jO m (k:Int) 0=true:=zBz oM;rw [az] at aa;have P:=r.box.cell 0;have b3:=r.box.cell 1;have b4:=r.box.cell 2;have a3:=r.box.cell 3;obtain ⟨b0,aZ⟩:=hqq2 ad r.low;have b8:=D.max;have b9:m<=s:=by have:=D.len;omega
 have ar:IntKind.i64.wrap ((s:Int) -(m:Int))=(s:Int) -(m:Int):=by rw [IntKind.wrap_i64];omega
 have au:decide ((o:Int) > (s:Int) -(m:Int))=j:=(decide_eq_decide.2 ⟨fun _=>by omega,fun _=>by omega⟩).trans ad;obtain ⟨y,aQ,aW,aj,ai,Z,M,Y,aO⟩:=hqq9 r.st av aA r.ap aa r.box a6 aw ar;have aP:=lhd au;clear D a5 r av aA aa az a6 aw b8 ar au b9 ad;go_enter func49,ntmps49;go_wp2_with fail;refine ai.out.mono ?_;rintro I w1 ⟨rfl,rfl⟩;clear ai;go_wp2_with fail;generalize q.alloc (.cells #[.int .i64 1,(k:Int),.int .i64 ah,.slice G o O] 57)=w1 at*
 clear P b3 b4 a3;have am:=lhd (fun l (ag:VB d w1 l)=>(y.out.vb ag.1).llen M.out);refine wp_region_any kR ?_;refine aY (S:=(VB d)) (V:=(Vs [is q.heap.size,is (.int .i64 1),is (.bool true),is (.bool true),is (.pointer (some ⟨q.heap.size,3,none⟩)),is (.slice G o O),is (o:Int),is e,is e,is (.pointer (some ⟨e,1,none⟩)),is (s:Int),is e,is e,is e,is v,is (m:Int),is (.int .i64 ((s:Int) -(m:Int))),is (.bool j),is (.bool j),is (.bool j)])) [27,28,29,30,31,32,33,34,35,36,37,38,39,40,41,42,43,44,45,26] _ rfl kR vR (fun _ _=>VisK.trans) (cK tA0) ?_ ?_
 · refine aV ?_;refine pH 3 (.pointer (some q.heap.size)) ?_;refine sC (fun _ l a _ _ _ b _ _ _ g=>?_) ?_
   · have bf:_=_:=b 0 27 kR rfl;replace a:(VB d) w1 l:=bD a;have K:=a.1.bk Z.out dC dC;have H:=K.cell 0;go_simp;exact g _ _ vR rfl
   refine pV 1 28 ?_;refine pV 2 29 ?_;refine gH 30 true 3 (.pointer (some q.heap.size)) ?_;refine sG 30 true (fun _ l a _ _ _ b _ _ _ g=>?_) ?_
   · have bg:_=_:=b 4 31 kR rfl;replace a:(VB d) w1 l:=bD a;have K:=a.1.bk Z.out dC dC;have H:=K.cell 3;go_simp;exact g _ _ vR rfl
   refine gV 30 true 5 32 ?_;refine gH 30 true 0 (.pointer (some e)) ?_;refine gV 30 true 7 34 ?_;refine gV 30 true 8 35 ?_;refine sG 30 true (fun _ l a _ _ _ b _ _ _ g=>?_) ?_
   · have bi:_=_:=b 9 36 kR rfl;replace a:(VB d) w1 l:=bD a;have J:=a.1.bk y.out.blk dC dC;have H:=J.cell 1;go_simp;exact g _ _ vR rfl
   refine gH 30 true 0 (.pointer (some e)) ?_;refine gV 30 true 11 38 ?_;refine gV 30 true 12 39 ?_;refine sG 30 true (fun _ l a _ _ _ b _ _ _ g=>?_) ?_
   · have bl:_=_:=b 13 40 kR rfl;replace a:(VB d) w1 l:=bD a;have J:=a.1.bk y.out.blk dC dC;have H:=J.cell 0;go_simp;exact g _ _ vR rfl
   refine sG 30 true (fun _ l a _ _ _ b _ _ _ g=>?_) ?_
   · have bm:_=_:=b 14 41 kR rfl;replace a:(VB d) w1 l:=bD a;go_simp;refine (am.out l a).mono ?_;rintro I bx ⟨rfl,rfl⟩;exact g _ _ vR rfl
   refine sG 30 true (fun _ _ _ _ _ _ b _ _ _ g=>?_) ?_
   · have bj:_=_:=b 10 37 kR rfl;have bn:_=_:=b 15 42 kR rfl;go_simp;exact g _ _ vR (by first | rfl | exact congrArg (Value.int .i64) aO.out)
   refine sG 30 true (fun _ _ _ _ _ _ b _ _ _ g=>?_) ?_
   · have bh:_=_:=b 6 33 kR rfl;have bo:_=_:=b 16 43 kR rfl;go_simp;exact g _ _ vR (by first | rfl | exact congrArg Value.bool aP.out)
   refine pW 3 30 17 44 ?_;refine pV 18 45 ?_;exact aH
 · intro C A a b;replace a:(VB d) w1 A:=bD a;have aq:C (.tmp 26)=.bool j:=b 19 26 rfl;simp only [zqq];rw [aq];clear b;clear aq;cases j
   · have bt:=a4 rfl;clear a4;have aG:=y.out.vb a.1;have ab:=LFS.of_vb e own a;have Q:=a.1.bk Z.out dC dC;have P:=Q.cell 0;have a3:=Q.cell 3;obtain ⟨b1,aX,aR,aU⟩:=hqq4 aG (aW.out.trans ab) (aQ.out.step ab) Q;clear aG ab Q a am;go_wp2_with fail;clear P a3;go_loopw [6,7,65] (fun _ _ X wr=>∃(c:Nat) (F:Nat->Nat),c<=o/\X=.int .i64 (c:Int)/\StAt wr d F e v s x (uJ n k (p.take c)) (aE6 x m k a2 c)/\LFS d e A wr own F) (fun _ _ X _=>o -(intOf X).toNat)
     case atStart=>exact ⟨0,own,by omega,rfl,by rw [List.take_zero,aH2];exact b1.out,LFS.refl _ _ _ _⟩
     case round=>
        obtain ⟨c,F,bv,rfl,z,E⟩:=hrel;have U:k<=n.length:=(by rw [M.out];exact ba);by_cases aF:c < o
        · obtain ⟨j,a7⟩:∃j,p[c]?=some j:=⟨_,zAa (by rw [Y.out];exact aF)⟩;have b7:c < p.length:=(by rw [Y.out];exact aF);have ae:(p.take c).length=c:=(by rw [zAj];omega);have T:(uJ n k (p.take c)).length=m+c:=(by rw [vZ (t:=n) _ U,ae,M.out]);have R:=fun l (ag:VB d wr l)=>aDc (w:=l) (B:=d) (own:=F) (gl:=v) (t:=(uJ n k (p.take c))) (rate:=x) (k+c) j (z.vb ag.1).live (by rw [T];omega) (by rw [T];omega) z.r1 z.r2;have ac:=aH3 (t:=n) (p.take c) j U;rw [ae] at ac;have aI:p.take (c+1)=p.take c++ [j]:=(by rw [zAv,a7];rfl);unfold aBG at R;rw [T,ac,<-aI] at R;obtain ⟨b2,bb,rfl,bu,ay⟩:=((aR.out.step E).1).2 oM;have be:wr.cell? ⟨b2,bb+c,none⟩=some (.int .u8 (j.toNat:Int)):=ay c _ (by rw [zAf,a7];rfl);have a8:=E.bk aU.out aj.out.col aj.out.ne dC dC;have aT:=lhd a8;have P:=a8.cell 0;have ao:IntKind.i64.wrap ((k:Int)+(c:Int))=((k+c:Nat):Int):=(by rw [IntKind.wrap_i64];omega);have aB:(uJ n k (p.take (c+1))).length=m+(c+1):=(by rw [vZ (t:=n) _ U,zAj,M.out];omega);obtain ⟨y,an,ak,al,aN⟩:=hqq5 z E R aB ao;clear ao z E R ac aI T ae a7 b7 ay a8 aB U;go_wp2_with fail;refine wp_region_any kR ?_;refine bQ (pre:=(fun _=>True)) (pJ:=(fun L _=>L=.pointer (some v))) d 9 [83,84,85,86,87,88,89,90,91] (fun _=>False) 3 [] [is e,is e,is e,dJ,is (.pointer (some ⟨q.heap.size,1,none⟩)),is (k:Int),is (c:Int),is (.int .i64 ((k+c:Nat):Int)),is (.int .u8 (j.toNat:Int))] _ rfl dC kR kR kR (trivial) (fun _ _ _ _ _=>trivial) (fun _ _ _ D _=>D) tA0 ?_ ?_
          · refine bH ?_;refine pH3 0 (.pointer (some e)) ?_;refine pV3 0 83 ?_;refine pV3 1 84 ?_;refine sC3 (fun _ l a _ _ _ _ b _ _ _ g=>?_) ?_
            · replace a:VFB d (fun _=>False) wr l:=fD a;have bp:_=_:=b 2 85 kR rfl;have af:=a.to_vb (fun _ _ u=>u);have J:=af.1.bk y.out.blk dC dC;have H:=J.cell 0;go_simp;exact g _ _ (iX (VFB.of_vb vR)) rfl
            refine pH3 3 (.pointer (some q.heap.size)) ?_;refine sC3 (fun _ l a _ _ _ _ b _ _ _ g=>?_) ?_
            · replace a:VFB d (fun _=>False) wr l:=fD a;have bq:_=_:=b 4 87 kR rfl;have af:=a.to_vb (fun _ _ u=>u);have K:=af.1.bk aT.out dC dC;have H:=K.cell 1;go_simp;exact g _ _ (aE vR) rfl
            refine pH3 6 (.int .i64 (c:Int)) ?_;refine sC3 (fun _ _ _ _ _ _ _ b _ _ _ g=>?_) ?_
            · have br:_=_:=b 5 88 kR rfl;have bs:_=_:=b 6 89 kR rfl;go_simp;exact g _ _ (aE vR) (by first | rfl | exact congrArg (Value.int .i64) aN.out)
            refine pH3 7 (.int .u8 (j.toNat:Int)) ?_;exact aH
          · intro C A u a b ax;replace a:VFB d (fun _=>False) wr A:=fD a;have aJ:(fun L _=>L=.pointer (some v)) (C (.tmp 86)) A:=b 3 86 dC rfl;have b5:C (.tmp 90)=.int .i64 ((k+c:Nat):Int):=b 7 90 dC rfl;have b6:C (.tmp 91)=.int .u8 (j.toNat:Int):=b 8 91 dC rfl;obtain ⟨bd,aL⟩:=ax 3 dC;have aK:(fun L _=>L=.pointer (some v)) bd A:=aL;clear aL ax;simp only [zqq];rw [b5];rw [b6];clear b;have W:=a.to_vb (fun _ _ u=>u);rw [show C (.tmp 86)=_ from aJ];clear aK a aJ;change wpAny prog Region.Mode.any _ _ (1+u) (bX 9 10) _ A;rw [zCt 1 u];refine bL (f:=u) (i:=9) kR ?_;refine bY rfl rfl ?_;generalize g:wpAny prog _ _ _ u _=K5;go_simp;refine (ak.out A W).mono ?_;rintro I bw ⟨rfl,bc,aC,aD⟩;subst g;refine bO kR ?_;have a9:=(y.out.vb W.1).edited aC aD (by rw [al.out];omega) (by rw [al.out];have:=of_decide_eq_false b0.out;omega);obtain ⟨a1,a0⟩:=hqq2 a9.1 (an.out.trans ((LFS.of_vb e F W).trans a9.2));clear a9 aC aD W y an ak;go_wp2_with fail;go_roundw
            case rel=>exact ⟨c+1,bc,by omega,by go_num,a1.out,a0.out⟩
            case measure=>simp [intOf];omega
        · obtain rfl:c=o:=oM;rw [zAg (by rw [Y.out];exact zAs _)] at z;obtain ⟨a1,a0⟩:=hqq2 z (aX.out.trans E);clear z E;go_wp2_with fail;go_ret;exact ⟨rfl,F,a1.out,a0.out⟩
   · have aS:=lhd (VisK.trans (VisK.of_below aZ.out) a);clear a a4;go_wp2_with fail;go_ret;exact ⟨rfl,aS.out⟩
def yR {T:Nat->Prop} {c:Nat} {own:Nat->Nat} {g o G r x:Nat} {d:List UInt8} {b e:Nat} (P:Option Addr) (a5 U:Nat) {q:World} (z:StAt q c own g o G r d T) (Y:TabW q) (I:7 < c) (J:d.length=x) (aT:b+e<=x):
 Calls prog 49 #[g,.agg #[.int .i64 2,(b:Int),(e:Int),.slice P a5 U]] q (aEH q c own g o G r (d.take b++d.drop (b+e)) (aFf r x b T e)):=by
 have n:=EdW.mk' 2 (b:Int) (e:Int) P a5 U z;have al:=LFS.of_below c g own n.low;have a1:=oO (B:=c) (own:=own) (gs:=g) (gl:=o) (most:=G) (rate:=r) (N:=x) (t:=d) b e n.st J;have ak:jO x (b:Int) (e:Int)=true:=zBz oM;rw [ak] at a1;have W:=n.box.cell 0;have aF:=n.box.cell 1;have X:=n.box.cell 2;have aG:=n.box.cell 3;have aL:=z.n127;have a3:=z.len;rw [J] at aL a3;have ah:=Y.below n.low Y.pos;obtain ⟨D,aA,a9,a6,aa,a7,a8,aD⟩:=hqq8 n.st al n.ap a1 n.box J ah a3;clear z n al a1 ak J Y ah a3;go_enter func49,ntmps49;go_wp2_with fail;refine a6.out.mono ?_;rintro aI w1 ⟨rfl,rfl⟩;clear a6;go_wp2_with fail;generalize q.alloc (.cells #[.int .i64 2,(b:Int),(e:Int),.slice P a5 U] 57)=w1 at*
 clear W aF X aG;refine wp_region_any kR ?_;refine aY (S:=(VB c)) (V:=(Vs [is q.heap.size,is (.int .i64 2),is (.bool false),is (.bool false),is undef,is undef,is undef,is undef,is undef,is undef,is undef,is undef,is undef,is undef,is undef,is undef,is undef,is undef,is (.bool false),is (.bool false)])) [27,28,29,30,31,32,33,34,35,36,37,38,39,40,41,42,43,44,45,26] _ rfl kR vR (fun _ _=>VisK.trans) (cK tA0) ?_ ?_
 · refine aV ?_;refine pH 3 (.pointer (some q.heap.size)) ?_;refine sC (fun _ u a _ _ _ l _ _ _ y=>?_) ?_
   · have aO:_=_:=l 0 27 kR rfl;replace a:(VB c) w1 u:=bD a;have Z:=a.1.bk aa.out dC dC;have af:=Z.cell 0;go_simp;exact y _ _ vR rfl
   refine pV 1 28 ?_;refine pV 2 29 ?_;refine aB ?_ ?_;exact sK 30 false fun _=>vR;refine aB ?_ ?_;exact sK 30 false fun _=>vR;refine aB ?_ ?_;exact sK 30 false fun _=>vR;refine aB ?_ ?_;exact sK 30 false fun _=>vR;refine aB ?_ ?_;exact sK 30 false fun _=>vR;refine aB ?_ ?_;exact sK 30 false fun _=>vR;refine aB ?_ ?_;exact sK 30 false fun _=>vR;refine aB ?_ ?_;exact sK 30 false fun _=>vR;refine aB ?_ ?_;exact sK 30 false fun _=>vR;refine aB ?_ ?_;exact sK 30 false fun _=>vR;refine aB ?_ ?_;exact sK 30 false fun _=>vR;refine aB ?_ ?_;exact sK 30 false fun _=>vR;refine aB ?_ ?_;exact sK 30 false fun _=>vR;refine aB ?_ ?_;exact sK 30 false fun _=>vR;refine pW 3 30 17 44 ?_;refine pV 18 45 ?_;exact aH
 · intro E v a l;replace a:(VB c) w1 v:=bD a;have ag:E (.tmp 26)=.bool false:=l 19 26 rfl;simp only [zqq];rw [ag];clear l;have ar:=D.out.vb a.1;have ao:=LFS.of_vb g own a;have K:=a.1.bk aa.out dC dC;have W:=K.cell 0;have X:=K.cell 2;obtain ⟨ae,aC,ax,az⟩:=hqq4 ar (aA.out.trans ao) (a8.out.vb a I a8.out.pos) K;clear ar ao K a ag;go_wp2_with fail;clear W X;go_loopw [52] (fun O wr=>∃(k:Nat) (C:Nat->Nat),k<=e/\O=.int .i64 (k:Int)/\StAt wr c C g o G r (d.take b++d.drop (b+k)) (aFf r x b T k)/\LFS c g v wr own C) (fun O _=>e -(intOf O).toNat)
   case atStart=>exact ⟨0,own,by omega,rfl,by rw [zBq,zAu];exact ae.out,LFS.refl _ _ _ _⟩
   case round=>
    obtain ⟨k,C,aR,rfl,s,A⟩:=hrel;by_cases aS:k < e
    · have aq:b+k < d.length:=(by rw [a7.out];omega);have F:=aFg d (p:=b) (j:=k) oM;have a2:=aFg d (p:=b) (j:=k+1) oM;rw [a7.out] at F a2;have L:=fun u (e:VB c wr u)=>aDd (w:=u) (B:=c) (own:=C) (gl:=o) (t:=(d.take b++d.drop (b+k))) (rate:=r) b (s.vb e.1).live ((ax.out.below (A.below ae.out.size) I).vb e I (by have:=s.size;omega)) I (by rw [F];omega) (by rw [F];omega) s.r1 s.r2;unfold aBG at L;rw [F,aIu (t:=d) aq] at L;have aj:=A.bk az.out a9.out.col a9.out.ne dC dC;obtain ⟨ay,D,ad,ab,ac⟩:=hqq5 aj s A L a2;clear s A L F a2 aj aq;go_wp2_with fail;refine wp_region_any kR ?_;refine bQ (pre:=(fun _=>True)) (pJ:=(fun H _=>H=.pointer (some o))) c 6 [54,55,56,57,58,59] (fun _=>False) 3 [] [is g,is g,is g,dJ,is (.pointer (some ⟨q.heap.size,1,none⟩)),is (b:Int)] _ rfl dC kR kR kR (trivial) (fun _ _ _ _ _=>trivial) (fun _ _ _ z _=>z) tA0 ?_ ?_
      · refine bH ?_;refine pH3 0 (.pointer (some g)) ?_;refine pV3 0 54 ?_;refine pV3 1 55 ?_;refine sC3 (fun _ u a _ _ _ _ l _ _ _ y=>?_) ?_
        · replace a:VFB c (fun _=>False) wr u:=fD a;have aP:_=_:=l 2 56 kR rfl;have a4:=a.to_vb (fun _ _ m=>m);have aK:=a4.1.bk D.out.blk dC dC;have af:=aK.cell 0;go_simp;exact y _ _ (iX (VFB.of_vb vR)) rfl
        refine pH3 3 (.pointer (some q.heap.size)) ?_;refine sC3 (fun _ u a _ _ _ _ l _ _ _ y=>?_) ?_
        · replace a:VFB c (fun _=>False) wr u:=fD a;have aQ:_=_:=l 4 58 kR rfl;have a4:=a.to_vb (fun _ _ m=>m);have Z:=a4.1.bk ay.out dC dC;have af:=Z.cell 1;go_simp;exact y _ _ (aE vR) rfl
        exact aH
      · intro E v m a l ai;replace a:VFB c (fun _=>False) wr v:=fD a;have au:(fun H _=>H=.pointer (some o)) (E (.tmp 57)) v:=l 3 57 dC rfl;have aJ:E (.tmp 59)=.int .i64 (b:Int):=l 5 59 dC rfl;obtain ⟨aN,aw⟩:=ai 3 dC;have av:(fun H _=>H=.pointer (some o)) aN v:=aw;clear aw ai;simp only [zqq];rw [aJ];clear l;have M:=a.to_vb (fun _ _ m=>m);rw [show E (.tmp 57)=_ from au];clear av a au;change wpAny prog Region.Mode.any _ _ (1+m) (bX 6 7) _ v;rw [zCt 1 m];refine bL (f:=m) (i:=6) kR ?_;refine bY rfl rfl ?_;generalize y:wpAny prog _ _ _ m _=K5;go_simp;refine (ab.out v M).mono ?_;rintro aI aU ⟨rfl,aM,am,an⟩;subst y;refine bO kR ?_;have a0:=(D.out.vb M.1).edited am an (by rw [ac.out];omega) (by rw [ac.out];have:=aD.out;omega);obtain ⟨R,Q⟩:=hqq2 a0.1 (ad.out.trans ((LFS.of_vb g C M).trans a0.2));clear a0 am an M D ad ab;go_wp2_with fail;go_roundw
        case rel=>exact ⟨k+1,aM,by omega,by go_num,R.out,Q.out⟩
        case measure=>simp [intOf];omega
    · obtain rfl:k=e:=oM;obtain ⟨R,Q⟩:=hqq2 s (aC.out.trans A);clear s A;go_wp2_with fail;go_ret;exact ⟨rfl,C,R.out,Q.out⟩
def yQ {Z:Nat->Prop} {d:Nat} {own:Nat->Nat} {k r I A:Nat} (H:Nat) {g l:List UInt8} (c:Nat) (ae:Int) {K:Option Addr} {n:Nat} (a0:Nat) {q:World} (E:StAt q d own k r I A g Z) (a4:TabW q) (O:7 < d) (P:g.length=H) (a2:ArgZ q d own k K n l) (bh:c+n<=H):
 Calls prog 49 #[k,.agg #[.int .i64 3,(c:Int),.int .i64 ae,.slice K n a0]] q (aEH q d own k r I A (g.take c++(l++g.drop (c+l.length))) Z):=by
 have a3:l.length=n:=by simpa using a2.1.1
 rw [a3];have m:=EdW.mk' 3 (c:Int) ae K n a0 E;have au:=a2.vis m.low;have az:=LFS.of_below d k own m.low;have a9:=oO (B:=d) (own:=own) (gs:=k) (gl:=r) (most:=I) (rate:=A) (N:=H) (t:=g) c n m.st P;have ay:jO H (c:Int) (n:Int)=true:=zBz oM;rw [ay] at a9;have M:=m.box.cell 0;have aX:=m.box.cell 1;have aZ:=m.box.cell 2;have a1:=m.box.cell 3;have b5:=E.n127;have ac:=E.len;rw [P] at b5 ac;have av:=a4.below m.low a4.pos;obtain ⟨G,aN,aS,ai,af,aj,ag,L,ah⟩:=hqq9 m.st au az m.ap a9 m.box P a3 av;have aU:=lhd ac;clear E a2 m au az a9 ay P a3 a4 av ac;go_enter func49,ntmps49;go_wp2_with fail;refine af.out.mono ?_;rintro b0 w1 ⟨rfl,rfl⟩;clear af;go_wp2_with fail;generalize q.alloc (.cells #[.int .i64 3,(c:Int),.int .i64 ae,.slice K n a0] 57)=w1 at*
 clear M aX aZ a1;refine wp_region_any kR ?_;refine aY (S:=(VB d)) (V:=(Vs [is q.heap.size,is (.int .i64 3),is (.bool false),is (.bool false),is undef,is undef,is undef,is undef,is undef,is undef,is undef,is undef,is undef,is undef,is undef,is undef,is undef,is undef,is (.bool false),is (.bool false)])) [27,28,29,30,31,32,33,34,35,36,37,38,39,40,41,42,43,44,45,26] _ rfl kR vR (fun _ _=>VisK.trans) (cK tA0) ?_ ?_
 · refine aV ?_;refine pH 3 (.pointer (some q.heap.size)) ?_;refine sC (fun _ v b _ _ _ e _ _ _ s=>?_) ?_
   · have ba:_=_:=e 0 27 kR rfl;replace b:(VB d) w1 v:=bD b;have a7:=b.1.bk aj.out dC dC;have ao:=a7.cell 0;go_simp;exact s _ _ vR rfl
   refine pV 1 28 ?_;refine pV 2 29 ?_;refine aB ?_ ?_;exact sK 30 false fun _=>vR;refine aB ?_ ?_;exact sK 30 false fun _=>vR;refine aB ?_ ?_;exact sK 30 false fun _=>vR;refine aB ?_ ?_;exact sK 30 false fun _=>vR;refine aB ?_ ?_;exact sK 30 false fun _=>vR;refine aB ?_ ?_;exact sK 30 false fun _=>vR;refine aB ?_ ?_;exact sK 30 false fun _=>vR;refine aB ?_ ?_;exact sK 30 false fun _=>vR;refine aB ?_ ?_;exact sK 30 false fun _=>vR;refine aB ?_ ?_;exact sK 30 false fun _=>vR;refine aB ?_ ?_;exact sK 30 false fun _=>vR;refine aB ?_ ?_;exact sK 30 false fun _=>vR;refine aB ?_ ?_;exact sK 30 false fun _=>vR;refine aB ?_ ?_;exact sK 30 false fun _=>vR;refine pW 3 30 17 44 ?_;refine pV 18 45 ?_;exact aH
 · intro C x b e;replace b:(VB d) w1 x:=bD b;have ar:C (.tmp 26)=.bool false:=e 19 26 rfl;simp only [zqq];rw [ar];clear e;have aF:=G.out.vb b.1;have ab:=LFS.of_vb k own b;have Q:=b.1.bk aj.out dC dC;have M:=Q.cell 0;have a1:=Q.cell 3;obtain ⟨an,aT,aO,aP,aR⟩:=hqq5 aF (aS.out.trans ab) (aN.out.step ab) (ah.out.vb b O ah.out.pos) Q;clear aF ab Q b ar;go_wp2_with fail;clear M a1;go_loopw [6,7,65] (fun _ _ W wr=>∃(a:Nat) (F:Nat->Nat),a<=n/\W=.int .i64 (a:Int)/\StAt wr d F k r I A (g.take c++(l.take a++g.drop (c+a))) Z/\LFS d k x wr own F) (fun _ _ W _=>n -(intOf W).toNat)
   case atStart=>exact ⟨0,own,by omega,rfl,by rw [List.take_zero,List.nil_append,zBq,zAu];exact an.out,LFS.refl _ _ _ _⟩
   case round=>
    obtain ⟨a,F,bg,rfl,u,z⟩:=hrel;by_cases b4:a < n
    · obtain ⟨y,a5⟩:∃y,l[a]?=some y:=⟨_,zAa (by rw [L.out];exact b4)⟩;have aD:c+a < g.length:=(by rw [ag.out];omega);have R:=aEQ g l (p:=c) (j:=a) (by rw [L.out];omega) oM;have aa:=aEQ g l (p:=c) (j:=a+1) (by rw [L.out];omega) oM;rw [ag.out] at R aa;have T:=fun v (aI:VB d wr v)=>aIQ (w:=v) (B:=d) (own:=F) (gl:=r) (t:=(g.take c++(l.take a++g.drop (c+a)))) (rate:=A) (c+a) y (u.vb aI.1).live ((aP.out.below (z.below an.out.size) O).vb aI O (by have:=u.size;omega)) O (by rw [R];omega) (by rw [R];omega) u.r1 u.r2;unfold aBG at T;rw [aHm (t:=g) (D:=l) a5 aD] at T;obtain ⟨aW,b6,rfl,bf,ax⟩:=((aO.out.step z).1).2 oM;have b9:wr.cell? ⟨aW,b6+a,none⟩=some (.int .u8 (y.toNat:Int)):=ax a _ (by rw [zAf,a5];rfl);have a6:=z.bk aR.out ai.out.col ai.out.ne dC dC;have aQ:=lhd a6;have M:=a6.cell 0;have aq:IntKind.i64.wrap ((c:Int)+(a:Int))=((c+a:Nat):Int):=(by rw [IntKind.wrap_i64];omega);obtain ⟨G,al,am,ak,aM⟩:=hqq5 u z T aa aq;clear aq u z T R aa a5 ax a6 aD;go_wp2_with fail;refine wp_region_any kR ?_;refine bQ (pre:=(fun _=>True)) (pJ:=(fun J _=>J=.pointer (some r))) d 9 [73,74,75,76,77,78,79,80,81] (fun _=>False) 3 [] [is k,is k,is k,dJ,is (.pointer (some ⟨q.heap.size,1,none⟩)),is (c:Int),is (a:Int),is (.int .i64 ((c+a:Nat):Int)),is (.int .u8 (y.toNat:Int))] _ rfl dC kR kR kR (trivial) (fun _ _ _ _ _=>trivial) (fun _ _ _ E _=>E) tA0 ?_ ?_
      · refine bH ?_;refine pH3 0 (.pointer (some k)) ?_;refine pV3 0 73 ?_;refine pV3 1 74 ?_;refine sC3 (fun _ v b _ _ _ _ e _ _ _ s=>?_) ?_
        · replace b:VFB d (fun _=>False) wr v:=fD b;have bb:_=_:=e 2 75 kR rfl;have ad:=b.to_vb (fun _ _ o=>o);have b3:=ad.1.bk G.out.blk dC dC;have ao:=b3.cell 0;go_simp;exact s _ _ (iX (VFB.of_vb vR)) rfl
        refine pH3 3 (.pointer (some q.heap.size)) ?_;refine sC3 (fun _ v b _ _ _ _ e _ _ _ s=>?_) ?_
        · replace b:VFB d (fun _=>False) wr v:=fD b;have bc:_=_:=e 4 77 kR rfl;have ad:=b.to_vb (fun _ _ o=>o);have a7:=ad.1.bk aQ.out dC dC;have ao:=a7.cell 1;go_simp;exact s _ _ (aE vR) rfl
        refine pH3 6 (.int .i64 (a:Int)) ?_;refine sC3 (fun _ _ _ _ _ _ _ e _ _ _ s=>?_) ?_
        · have bd:_=_:=e 5 78 kR rfl;have be:_=_:=e 6 79 kR rfl;go_simp;exact s _ _ (aE vR) (by first | rfl | exact congrArg (Value.int .i64) aM.out)
        refine pH3 7 (.int .u8 (y.toNat:Int)) ?_;exact aH
      · intro C x o b e aw;replace b:VFB d (fun _=>False) wr x:=fD b;have aJ:(fun J _=>J=.pointer (some r)) (C (.tmp 76)) x:=e 3 76 dC rfl;have b1:C (.tmp 80)=.int .i64 ((c+a:Nat):Int):=e 7 80 dC rfl;have b2:C (.tmp 81)=.int .u8 (y.toNat:Int):=e 8 81 dC rfl;obtain ⟨b8,aL⟩:=aw 3 dC;have aK:(fun J _=>J=.pointer (some r)) b8 x:=aL;clear aL aw;simp only [zqq];rw [b1];rw [b2];clear e;have U:=b.to_vb (fun _ _ o=>o);rw [show C (.tmp 76)=_ from aJ];clear aK b aJ;change wpAny prog Region.Mode.any _ _ (1+o) (bX 9 10) _ x;rw [zCt 1 o];refine bL (f:=o) (i:=9) kR ?_;refine bY rfl rfl ?_;generalize s:wpAny prog _ _ _ o _=K5;go_simp;refine (am.out x U).mono ?_;rintro b0 bi ⟨rfl,b7,aA,aC⟩;subst s;refine bO kR ?_;have a8:=(G.out.vb U.1).edited aA aC (by rw [ak.out];omega) (by rw [ak.out];have:=aU.out;omega);obtain ⟨Y,X⟩:=hqq2 a8.1 (al.out.trans ((LFS.of_vb k F U).trans a8.2));clear a8 aA aC U G al am;go_wp2_with fail;go_roundw
        case rel=>exact ⟨a+1,b7,by omega,by go_num,Y.out,X.out⟩
        case measure=>simp [intOf];omega
    · obtain rfl:a=n:=oM;have aG:l.take a=l:=zAg (by rw [L.out];exact zAs _);rw [aG] at u;clear aG;obtain ⟨Y,X⟩:=hqq2 u (aT.out.trans z);clear u z;go_wp2_with fail;go_ret;exact ⟨rfl,F,Y.out,X.out⟩
end Go.Proofs.YtcoooelofcejbaaGreatDoor
