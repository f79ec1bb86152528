/- Lemmas of the walk. Conditions: each its own. -/
import Derived.Test.YthldmddkfbijhaaGreatDoorPst25
import Derived.Test.YthldmddkfbijhaaGreatDoorPst26
import Derived.Test.YthldmddkfbijhaaGreatDoorProg
import Derived.Test.YthldmddkfbijhaaGreatDoorSht
import Derived.Test.YthldmddkfbijhaaGreatDoorShl
import Derived.Test.YthldmddkfbijhaaGreatDoorShi
set_option linter.all false
set_option maxRecDepth 100000
set_option maxHeartbeats 1000000
open Go.Proofs.Tryz
namespace Go.Proofs.YthldmddkfbijhaaGreatDoor
open Go.RowKit
section
variable {w w' : World} {B gs gl most rate : Nat} {own own' : Nat -> Nat} {t : List UInt8}
theorem StAt.llen {a:Nat} (c:StAt w B own gs gl most rate t) (d:t.length=a):Calls prog 37 #[gl] w fun b w'=>b=.returned (.int .i64 (a:Int))/\w=w':=by
 obtain ⟨m,gk,g,l,f,e,j,k,i⟩:=c.tp;exact bQ B gl _ a w e.lvw (by rw [bP,f.len,aL,d]) oM
end
section
variable {B gs : Nat} {w w1 w' : World} {own own1 own' : Nat -> Nat}
theorem LFS.of_lf (gs:Nat) (b:LF B w w' own own'):LFS B gs w w' own own':=⟨fun c d a=>by rw [<-b.old c d];exact a,b.vis.mono fun c _ a=>.inl a,b.keep⟩
end
theorem lM (B:Nat) (own:Nat->Nat) (gs gl most rate b:Nat) (t:List UInt8) (a c:Int) (w:World) (e:StAt w B own gs gl most rate t) (o:t.length=b):
 Calls prog 130 #[gs,.int .i64 a,.int .i64 c] w fun d w'=>d=.returned (.bool (iE b a c))/\w=w':=by
 have m:=e.llen o;have r:b<=127:=by have:=e.n127;omega
 have p:=e.blk.cell 0;have g:=lhd m;clear m e;unfold iE;by_cases f:0<=a
 · by_cases j:0<=c
   · by_cases l:a<=(b:Int)
     · have q:IntKind.i64.wrap ((b:Int) - a)=(b:Int) - a:=(by rw [IntKind.wrap_i64];omega);have i:decide (0<=a)=true:=zBz f;have k:decide (0<=c)=true:=zBz j;have n:decide (a<=(b:Int))=true:=zBz l;go_enter func130,ntmps130;go_wp2_with fail;refine g.out.mono ?_;rintro d w1 ⟨rfl,rfl⟩;go_wp2_with fail;refine g.out.mono ?_;rintro d w1 ⟨rfl,rfl⟩;go_wp2_with fail;go_ret;refine ⟨?_,rfl⟩
       first | rfl |(show Ending.returned (Value.bool (decide (c<=(b:Int) - a)))=_;congr 2;exact decide_eq_decide.2 oM)
     · have i:decide (0<=a)=true:=zBz f;have k:decide (0<=c)=true:=zBz j;have n:decide (a<=(b:Int))=false:=zBy l;go_enter func130,ntmps130;go_wp2_with fail;refine g.out.mono ?_;rintro d w1 ⟨rfl,rfl⟩;go_wp2_with fail;go_ret;refine ⟨?_,rfl⟩;show Ending.returned (Value.bool false)=_;rw [zBy oM]
   · have i:decide (0<=a)=true:=zBz f;have k:decide (0<=c)=false:=zBy j;go_enter func130,ntmps130;go_wp2_with fail;go_ret;exact ⟨rfl,rfl⟩
 · have i:decide (0<=a)=false:=zBy f;go_enter func130,ntmps130;go_wp2_with fail;go_ret;exact ⟨rfl,rfl⟩
def qY (a c:Int) (b:Nat):Int:=if a=1 then 0 else if a=3 then (b:Int) else c
theorem mP (B:Nat) (own:Nat->Nat) (gs gl most rate m:Nat) (t:List UInt8) (b g f:Int) (j:Option Addr) (e n:Nat) (w:World) (r:StAt w B own gs gl most rate t) (u:t.length=m) (a:iE m g (qY b f e)=false):
 Calls prog 74 #[gs,.agg #[.int .i64 b,.int .i64 g,.int .i64 f,.slice j e n]] w fun i w'=>i=.returned (.int .i64 2)/\Below w.heap.size w w':=by
 have q:Below w.heap.size w (w.alloc (.cells #[.int .i64 b,.int .i64 g,.int .i64 f,.slice j e n] 46)):=bR.alloc nL _;have s:=fun v=>lM B own gs gl most rate m t g v _ (r.vb (Vis.of_below q)) u;have l:=lhd q;have d:=Bk.new w 46 #[.int .i64 b,.int .i64 g,.int .i64 f,.slice j e n];have y:=d.cell 0;have z:=d.cell 1;have A:=d.cell 2;have C:=d.cell 3;have k:=lhd s;clear r q d s;unfold qY at a;by_cases o:b=1
 · subst o;rw [zBx rfl] at a;have c:=lhd a;clear a;go_enter func74,ntmps74;go_wp2_with fail;refine (k.out 0).mono ?_;rintro i w1 ⟨rfl,rfl⟩;rw [c.out];go_wp2_with fail;go_ret;exact ⟨rfl,l.out⟩
 · rw [zBw o] at a;by_cases p:b=3
   · subst p;rw [zBx rfl] at a;have c:=lhd a;clear a;go_enter func74,ntmps74;go_wp2_with fail;refine (k.out (e:Int)).mono ?_;rintro i w1 ⟨rfl,rfl⟩;rw [c.out];go_wp2_with fail;go_ret;exact ⟨rfl,l.out⟩
   · rw [zBw p] at a;have c:=lhd a;have b1:(b==1)=false:=zCb.2 o;have x:(b==3)=false:=zCb.2 p;clear a;go_enter func74,ntmps74;go_wp2_with fail;refine (k.out f).mono ?_;rintro i w1 ⟨rfl,rfl⟩;rw [c.out];go_wp2_with fail;go_ret;exact ⟨rfl,l.out⟩
def aFl (w:World) (B:Nat) (own:Nat->Nat) (gs gl most rate:Nat) (a:List UInt8) (b:Ending) (w':World):Prop:=
 b=.returned (.int .i64 0)/\∃own',StAt w' B own' gs gl most rate a/\LFS B gs w w' own own'
theorem StAt.edited {w w':World} {B gs gl most rate:Nat} {own own':Nat->Nat} {t b:List UInt8} (a:StAt w B own gs gl most rate t) (f:LiveE w' B own' gl b rate) (c:LF B w w' own own') (e:b.length<=127) (g:b.length<=most):StAt w' B own' gs gl most rate b/\LFS B gs w w' own own':=
 ⟨⟨c.vis.bk a.blk dC dC (fun d=>d a.col),a.low,(c.old _ a.blk.lt).trans a.col,f,e,g,a.max,a.r1,a.r2⟩,LFS.of_lf gs c⟩
structure EdW (w W:World) (B:Nat) (own:Nat->Nat) (gs gl most rate:Nat) (t:List UInt8) (kind p n:Int) (A:Option Addr) (m c:Nat):Prop where
 low:Below w.heap.size w W
 box:Bk W w.heap.size 46 #[.int .i64 kind,.int .i64 p,.int .i64 n,.slice A m c]
 st:StAt W B own gs gl most rate t
 ap:Ap own gs w.heap.size
theorem EdW.mk' {w:World} {B:Nat} {own:Nat->Nat} {gs gl most rate:Nat} {t:List UInt8} (d g f:Int) (a:Option Addr) (e b:Nat) (c:StAt w B own gs gl most rate t):
 EdW w (w.alloc (.cells #[.int .i64 d,.int .i64 g,.int .i64 f,.slice a e b] 46)) B own gs gl most rate t d g f a e b:=by
 have i:Below w.heap.size w (w.alloc (.cells #[.int .i64 d,.int .i64 g,.int .i64 f,.slice a e b] 46)):=bR.alloc nL _;exact ⟨i,Bk.new w _ _,c.vb (Vis.of_below i),⟨c.fresh nL,by have:=c.blk.lt;omega⟩⟩
theorem zO (B:Nat) (own:Nat->Nat) (gs gl most rate l:Nat) (t k:List UInt8) (g:Nat) (a2:Int) (v:Option Addr) (j E:Nat) (w:World) (y:StAt w B own gs gl most rate t) (R:t.length=l) (Q:ArgZ w B own gs v j k) (aR:g<=l) (aS:l+j<=most) (bb:l+j<=127):
 Calls prog 74 #[gs,.agg #[.int .i64 1,(g:Int),.int .i64 a2,.slice v j E]] w (aFl w B own gs gl most rate (uM t g k)):=by
 have af:k.length=j:=by simpa using Q.1.1
 have n:=EdW.mk' 1 (g:Int) a2 v j E y;have ae:=Q.vis n.low;have aj:=LFS.of_below B gs own n.low;have V:=lM B own gs gl most rate l t g 0 _ n.st R;have ai:iE l (g:Int) 0=true:=zBz oM;rw [ai] at V;have F:=n.box.cell 0;have aJ:=n.box.cell 1;have aK:=n.box.cell 2;have P:=n.box.cell 3;have aF:=lhd aS;have aP:=y.max;have ac:IntKind.i64.wrap ((most:Int) -(l:Int))=(most:Int) -(l:Int):=by rw [IntKind.wrap_i64];omega
 have ad:decide ((j:Int) > (most:Int) -(l:Int))=false:=zBy oM;obtain ⟨p,ay,aC,a4,a3,M,D,L,aw⟩:=hqq9 n.st ae aj n.ap V n.box R af ac;have ax:=lhd ad;clear y Q n ae aj V ai R af aP ac ad;go_enter func74,ntmps74;go_wp2_with fail;refine a3.out.mono ?_;rintro a9 w1 ⟨rfl,rfl⟩;clear a3;go_wp2_with fail;generalize w.alloc (.cells #[.int .i64 1,(g:Int),.int .i64 a2,.slice v j E] 46)=w1 at*
 clear F aJ aK P;have a7:=lhd (fun e (a1:VB B w1 e)=>(p.out.vb a1.1).llen D.out);refine wp_region_any kR ?_;refine aQ [27,28,29,30,31,32,33,34,35,36,37,38,39,40,41,42,43,44,45,26] (VB B) (Vs [is w.heap.size,is (.int .i64 1),is (.bool true),is (.bool true),is (.pointer (some ⟨w.heap.size,3,none⟩)),is (.slice v j E),is (j:Int),is gs,is gs,is (.pointer (some ⟨gs,1,none⟩)),is (most:Int),is gs,is gs,is gs,is gl,is (l:Int),is (.int .i64 ((most:Int) -(l:Int))),is (.bool false),is (.bool false),is (.bool false)]) _ _ rfl kR vR (fun _ _=>VisK.trans) (cV tA1) ?_ ?_
 · refine aO ?_;refine pH 3 (.pointer (some ⟨w.heap.size,0,none⟩)) ?_;refine sC (fun _ e a _ _ _ b _ _ _ d=>?_) ?_
   · have aY:_=_:=b 0 27 kR rfl;replace a:(VB B) w1 e:=bD a;have A:=a.1.bk M.out dC dC;have x:=A.cell 0;go_simp;exact d _ _ vR rfl
   refine pV 1 28 ?_;refine pV 2 29 ?_;refine gH 30 true 3 (.pointer (some ⟨w.heap.size,0,none⟩)) ?_;refine sG 30 true (fun _ e a _ _ _ b _ _ _ d=>?_) ?_
   · have aZ:_=_:=b 4 31 kR rfl;replace a:(VB B) w1 e:=bD a;have A:=a.1.bk M.out dC dC;have x:=A.cell 3;go_simp;exact d _ _ vR rfl
   refine gV 30 true 5 32 ?_;refine gH 30 true 0 (.pointer (some ⟨gs,0,none⟩)) ?_;refine gV 30 true 7 34 ?_;refine gV 30 true 8 35 ?_;refine sG 30 true (fun _ e a _ _ _ b _ _ _ d=>?_) ?_
   · have b1:_=_:=b 9 36 kR rfl;replace a:(VB B) w1 e:=bD a;have z:=a.1.bk p.out.blk dC dC;have x:=z.cell 1;go_simp;exact d _ _ vR rfl
   refine gH 30 true 0 (.pointer (some ⟨gs,0,none⟩)) ?_;refine gV 30 true 11 38 ?_;refine gV 30 true 12 39 ?_;refine sG 30 true (fun _ e a _ _ _ b _ _ _ d=>?_) ?_
   · have b3:_=_:=b 13 40 kR rfl;replace a:(VB B) w1 e:=bD a;have z:=a.1.bk p.out.blk dC dC;have x:=z.cell 0;go_simp;exact d _ _ vR rfl
   refine sG 30 true (fun _ e a _ _ _ b _ _ _ d=>?_) ?_
   · have b4:_=_:=b 14 41 kR rfl;replace a:(VB B) w1 e:=bD a;go_simp;refine (a7.out e a).mono ?_;rintro a9 bf ⟨rfl,rfl⟩;exact d _ _ vR rfl
   refine sG 30 true (fun _ _ _ _ _ _ b _ _ _ d=>?_) ?_
   · have b2:_=_:=b 10 37 kR rfl;have b5:_=_:=b 15 42 kR rfl;go_simp;exact d _ _ vR (by first | rfl | exact congrArg (Value.int .i64) aw.out)
   refine sG 30 true (fun _ _ _ _ _ _ b _ _ _ d=>?_) ?_
   · have b0:_=_:=b 6 33 kR rfl;have b6:_=_:=b 16 43 kR rfl;go_simp;exact d _ _ vR (by first | rfl | exact congrArg Value.bool ax.out)
   refine pW 3 30 17 44 ?_;refine pV 18 45 ?_;exact aD
 · intro s r a b;replace a:(VB B) w1 r:=bD a;have ab:s (.tmp 26)=.bool false:=b 19 26 rfl;simp only [zqq];rw [ab];clear b;have ao:=p.out.vb a.1;have X:=LFS.of_vb gs own a;have G:=a.1.bk M.out dC dC;have F:=G.cell 0;have P:=G.cell 3;obtain ⟨aG,aE,az,aB⟩:=hqq4 ao (aC.out.trans X) (ay.out.step X) G;clear ao X G a a7 ab;go_wp2_with fail;clear F P;go_loopw [6,7,65] (fun _ _ K wr=>∃(c:Nat) (own':Nat->Nat),c<=j/\K=.int .i64 (c:Int)/\StAt wr B own' gs gl most rate (uM t g (k.take c))/\LFS B gs r wr own own') (fun _ _ K _=>j -(intOf K).toNat)
   case atStart=>exact ⟨0,own,by omega,rfl,by rw [List.take_zero,aIm];exact aG.out,LFS.refl _ _ _ _⟩
   case round=>
    obtain ⟨c,own',bd,rfl,q,u⟩:=hrel;have I:g<=t.length:=(by rw [D.out];exact aR);by_cases an:c < j
    · obtain ⟨o,S⟩:∃o,k[c]?=some o:=⟨_,zAa (by rw [L.out];exact an)⟩;have aN:c < k.length:=(by rw [L.out];exact an);have Z:(k.take c).length=c:=(by rw [zAj];omega);have W:(uM t g (k.take c)).length=l+c:=(by rw [wU t _ I,Z,D.out]);have H:=fun e (a1:VB B wr e)=>kT e B own' gl (uM t g (k.take c)) rate (g+c) o (q.vb a1.1).live (by rw [W];omega) (by rw [W];omega) q.r1 q.r2;have Y:=aIn t (k.take c) o I;rw [Z] at Y;have aq:k.take (c+1)=k.take c++ [o]:=(by rw [zAv,S];rfl);unfold tQ at H;rw [Y,<-aq] at H;obtain ⟨aI,aT,rfl,bc,ah⟩:=((az.out.step u).1).2 oM;have aX:wr.cell? ⟨aI,aT+c,none⟩=some (.int .u8 (o.toNat:Int)):=ah c _ (by rw [zAf,S];rfl);have T:=u.bk aB.out a4.out.col a4.out.ne dC dC;have aA:=lhd T;have F:=T.cell 0;have aa:IntKind.i64.wrap ((g:Int)+(c:Int))=((g+c:Nat):Int):=(by rw [IntKind.wrap_i64];omega);have ak:(uM t g (k.take (c+1))).length=l+(c+1):=(by rw [wU t _ I,zAj,D.out];omega);obtain ⟨p,a8,a5,a6,av⟩:=hqq5 q u H ak aa;clear aa q u H Y aq W Z S aN ah T ak I;go_wp2_with fail;refine wp_region_any kR ?_;refine cA B 9 [83,84,85,86,87,88,89,90,91] (fun _=>False) 3 [] (fun _=>True) (fun C _=>C=.pointer (some ⟨gl,0,none⟩)) [is gs,is gs,is gs,cX,is (.pointer (some ⟨w.heap.size,1,none⟩)),is (g:Int),is (c:Int),is (.int .i64 ((g+c:Nat):Int)),is (.int .u8 (o.toNat:Int))] _ _ rfl dC kR kR kR (trivial) (fun _ _ _ _ _=>trivial) (fun _ _ _ y _=>y) tA1 ?_ ?_
      · refine bJ ?_;refine pH3 0 (.pointer (some ⟨gs,0,none⟩)) ?_;refine pV3 0 83 ?_;refine pV3 1 84 ?_;refine sC3 (fun _ e a _ _ _ _ b _ _ _ d=>?_) ?_
        · replace a:VFB B (fun _=>False) wr e:=fD a;have b7:_=_:=b 2 85 kR rfl;have a0:=a.to_vb (fun _ _ m=>m);have z:=a0.1.bk p.out.blk dC dC;have x:=z.cell 0;go_simp;exact d _ _ (jQ (VFB.of_vb vR)) rfl
        refine pH3 3 (.pointer (some ⟨w.heap.size,0,none⟩)) ?_;refine sC3 (fun _ e a _ _ _ _ b _ _ _ d=>?_) ?_
        · replace a:VFB B (fun _=>False) wr e:=fD a;have b8:_=_:=b 4 87 kR rfl;have a0:=a.to_vb (fun _ _ m=>m);have A:=a0.1.bk aA.out dC dC;have x:=A.cell 1;go_simp;exact d _ _ (aH vR) rfl
        refine pH3 6 (.int .i64 (c:Int)) ?_;refine sC3 (fun _ _ _ _ _ _ _ b _ _ _ d=>?_) ?_
        · have b9:_=_:=b 5 88 kR rfl;have ba:_=_:=b 6 89 kR rfl;go_simp;exact d _ _ (aH vR) (by first | rfl | exact congrArg (Value.int .i64) av.out)
        refine pH3 7 (.int .u8 (o.toNat:Int)) ?_;exact aD
      · intro s r m a b ag;replace a:VFB B (fun _=>False) wr r:=fD a;have ar:(fun C _=>C=.pointer (some ⟨gl,0,none⟩)) (s (.tmp 86)) r:=b 3 86 dC rfl;have aL:s (.tmp 90)=.int .i64 ((g+c:Nat):Int):=b 7 90 dC rfl;have aM:s (.tmp 91)=.int .u8 (o.toNat:Int):=b 8 91 dC rfl;obtain ⟨aW,au⟩:=ag 3 dC;have aV:(fun C _=>C=.pointer (some ⟨gl,0,none⟩)) aW r:=au;clear au ag;simp only [zqq];rw [aL];rw [aM];clear b;have J:=a.to_vb (fun _ _ m=>m);rw [show s (.tmp 86)=_ from ar];clear aV a ar;change wpAny prog Region.Mode.any _ _ (1+m) (bX 9 10) _ r;rw [zCs 1 m];refine bG (f:=m) (i:=9) kR ?_;refine bV rfl rfl ?_;generalize d:wpAny prog _ _ _ m _=K5;go_simp;refine (a5.out r J).mono ?_;rintro a9 be ⟨rfl,aU,al,am⟩;subst d;refine bW kR ?_;have U:=(p.out.vb J.1).edited al am (by rw [a6.out];omega) (by rw [a6.out];have:=aF.out;omega);obtain ⟨O,N⟩:=hqq2 U.1 (a8.out.trans ((LFS.of_vb gs own' J).trans U.2));clear U al am J p a8 a5;go_wp2_with fail;go_roundw
        case rel=>exact ⟨c+1,aU,by omega,by go_num,O.out,N.out⟩
        case measure=>simp [intOf];omega
    · obtain rfl:c=j:=oM;rw [zAg (by rw [L.out];exact zAs _)] at q;obtain ⟨O,N⟩:=hqq2 q (aE.out.trans u);clear q u;go_wp2_with fail;go_ret;exact ⟨rfl,own',O.out,N.out⟩
theorem yL (B:Nat) (own:Nat->Nat) (gs gl most rate e:Nat) (t:List UInt8) (i:Nat) (u:Int) (j:Option Addr) (g k:Nat) (w:World) (l:StAt w B own gs gl most rate t) (p:t.length=e) (a2:i<=e) (Q:most < e+g):
 Calls prog 74 #[gs,.agg #[.int .i64 1,(i:Int),.int .i64 u,.slice j g k]] w fun o w'=>o=.returned (.int .i64 3)/\VB B w w':=by
 have f:=EdW.mk' 1 (i:Int) u j g k l;have s:=lM B own gs gl most rate e t i 0 _ f.st p;have C:iE e (i:Int) 0=true:=zBz oM;rw [C] at s;have J:=f.box.cell 0;have K:=f.box.cell 1;have L:=f.box.cell 2;have M:=f.box.cell 3;have O:=l.max;have P:e<=most:=by have:=l.len;omega
 have z:IntKind.i64.wrap ((most:Int) -(e:Int))=(most:Int) -(e:Int):=by rw [IntKind.wrap_i64];omega
 have A:decide ((g:Int) > (most:Int) -(e:Int))=true:=zBz oM;obtain ⟨m,I,v,x,F,D,E⟩:=hqq7 f.st f.low s f.box p z A;clear l f s C p O z A P Q;go_enter func74,ntmps74;go_wp2_with fail;refine v.out.mono ?_;rintro o w1 ⟨rfl,rfl⟩;clear v;go_wp2_with fail;generalize w.alloc (.cells #[.int .i64 1,(i:Int),.int .i64 u,.slice j g k] 46)=w1 at*
 clear J K L M;have H:=lhd (fun d (R:VB B w1 d)=>(m.out.vb R.1).llen F.out);refine wp_region_any kR ?_;refine aQ [27,28,29,30,31,32,33,34,35,36,37,38,39,40,41,42,43,44,45,26] (VB B) (Vs [is w.heap.size,is (.int .i64 1),is (.bool true),is (.bool true),is (.pointer (some ⟨w.heap.size,3,none⟩)),is (.slice j g k),is (g:Int),is gs,is gs,is (.pointer (some ⟨gs,1,none⟩)),is (most:Int),is gs,is gs,is gs,is gl,is (e:Int),is (.int .i64 ((most:Int) -(e:Int))),is (.bool true),is (.bool true),is (.bool true)]) _ _ rfl kR vR (fun _ _=>VisK.trans) (cV tA1) ?_ ?_
 · refine aO ?_;refine pH 3 (.pointer (some ⟨w.heap.size,0,none⟩)) ?_;refine sC (fun _ d a _ _ _ b _ _ _ c=>?_) ?_
   · have T:_=_:=b 0 27 kR rfl;replace a:(VB B) w1 d:=bD a;have r:=a.1.bk x.out dC dC;have n:=r.cell 0;go_simp;exact c _ _ vR rfl
   refine pV 1 28 ?_;refine pV 2 29 ?_;refine gH 30 true 3 (.pointer (some ⟨w.heap.size,0,none⟩)) ?_;refine sG 30 true (fun _ d a _ _ _ b _ _ _ c=>?_) ?_
   · have U:_=_:=b 4 31 kR rfl;replace a:(VB B) w1 d:=bD a;have r:=a.1.bk x.out dC dC;have n:=r.cell 3;go_simp;exact c _ _ vR rfl
   refine gV 30 true 5 32 ?_;refine gH 30 true 0 (.pointer (some ⟨gs,0,none⟩)) ?_;refine gV 30 true 7 34 ?_;refine gV 30 true 8 35 ?_;refine sG 30 true (fun _ d a _ _ _ b _ _ _ c=>?_) ?_
   · have W:_=_:=b 9 36 kR rfl;replace a:(VB B) w1 d:=bD a;have q:=a.1.bk m.out.blk dC dC;have n:=q.cell 1;go_simp;exact c _ _ vR rfl
   refine gH 30 true 0 (.pointer (some ⟨gs,0,none⟩)) ?_;refine gV 30 true 11 38 ?_;refine gV 30 true 12 39 ?_;refine sG 30 true (fun _ d a _ _ _ b _ _ _ c=>?_) ?_
   · have Y:_=_:=b 13 40 kR rfl;replace a:(VB B) w1 d:=bD a;have q:=a.1.bk m.out.blk dC dC;have n:=q.cell 0;go_simp;exact c _ _ vR rfl
   refine sG 30 true (fun _ d a _ _ _ b _ _ _ c=>?_) ?_
   · have Z:_=_:=b 14 41 kR rfl;replace a:(VB B) w1 d:=bD a;go_simp;refine (H.out d a).mono ?_;rintro o a3 ⟨rfl,rfl⟩;exact c _ _ vR rfl
   refine sG 30 true (fun _ _ _ _ _ _ b _ _ _ c=>?_) ?_
   · have X:_=_:=b 10 37 kR rfl;have a0:_=_:=b 15 42 kR rfl;go_simp;exact c _ _ vR (by first | rfl | exact congrArg (Value.int .i64) D.out)
   refine sG 30 true (fun _ _ _ _ _ _ b _ _ _ c=>?_) ?_
   · have V:_=_:=b 6 33 kR rfl;have a1:_=_:=b 16 43 kR rfl;go_simp;exact c _ _ vR (by first | rfl | exact congrArg Value.bool E.out)
   refine pW 3 30 17 44 ?_;refine pV 18 45 ?_;exact aD
 · intro N S a b;replace a:(VB B) w1 S:=bD a;have y:N (.tmp 26)=.bool true:=b 19 26 rfl;simp only [zqq];rw [y];clear b;clear y;have G:=lhd (VisK.trans (VisK.of_below I.out) a);clear a;go_wp2_with fail;go_ret;exact ⟨rfl,G.out⟩
theorem zP (B:Nat) (own:Nat->Nat) (gs gl most rate x:Nat) (t:List UInt8) (b c:Nat) (G:Option Addr) (T J:Nat) (w:World) (q:StAt w B own gs gl most rate t) (M:TabW w) (y:1 < B) (z:t.length=x) (aG:b+c<=x):
 Calls prog 74 #[gs,.agg #[.int .i64 2,(b:Int),(c:Int),.slice G T J]] w (aFl w B own gs gl most rate (t.take b++t.drop (b+c))):=by
 have k:=EdW.mk' 2 (b:Int) (c:Int) G T J q;have a9:=LFS.of_below B gs own k.low;have P:=lM B own gs gl most rate x t b c _ k.st z;have a8:iE x (b:Int) (c:Int)=true:=zBz oM;rw [a8] at P;have K:=k.box.cell 0;have an:=k.box.cell 1;have L:=k.box.cell 2;have ao:=k.box.cell 3;have av:=q.n127;have R:=q.len;rw [z] at av R;have a5:=M.below k.low M.pos;obtain ⟨s,ak,X,U,Y,V,W,am⟩:=hqq8 k.st a9 k.ap P k.box z a5 R;clear q k a9 P a8 z M a5 R;go_enter func74,ntmps74;go_wp2_with fail;refine U.out.mono ?_;rintro aq w1 ⟨rfl,rfl⟩;clear U;go_wp2_with fail;generalize w.alloc (.cells #[.int .i64 2,(b:Int),(c:Int),.slice G T J] 46)=w1 at*
 clear K an L ao;refine wp_region_any kR ?_;refine aQ [27,28,29,30,31,32,33,34,35,36,37,38,39,40,41,42,43,44,45,26] (VB B) (Vs [is w.heap.size,is (.int .i64 2),is (.bool false),is (.bool false),is undef,is undef,is undef,is undef,is undef,is undef,is undef,is undef,is undef,is undef,is undef,is undef,is undef,is undef,is (.bool false),is (.bool false)]) _ _ rfl kR vR (fun _ _=>VisK.trans) (cV tA1) ?_ ?_
 · refine aO ?_;refine pH 3 (.pointer (some ⟨w.heap.size,0,none⟩)) ?_;refine sC (fun _ m a _ _ _ e _ _ _ o=>?_) ?_
   · have az:_=_:=e 0 27 kR rfl;replace a:(VB B) w1 m:=bD a;have N:=a.1.bk Y.out dC dC;have a3:=N.cell 0;go_simp;exact o _ _ vR rfl
   refine pV 1 28 ?_;refine pV 2 29 ?_;refine aC ?_ ?_;exact sK 30 false fun _=>vR;refine aC ?_ ?_;exact sK 30 false fun _=>vR;refine aC ?_ ?_;exact sK 30 false fun _=>vR;refine aC ?_ ?_;exact sK 30 false fun _=>vR;refine aC ?_ ?_;exact sK 30 false fun _=>vR;refine aC ?_ ?_;exact sK 30 false fun _=>vR;refine aC ?_ ?_;exact sK 30 false fun _=>vR;refine aC ?_ ?_;exact sK 30 false fun _=>vR;refine aC ?_ ?_;exact sK 30 false fun _=>vR;refine aC ?_ ?_;exact sK 30 false fun _=>vR;refine aC ?_ ?_;exact sK 30 false fun _=>vR;refine aC ?_ ?_;exact sK 30 false fun _=>vR;refine aC ?_ ?_;exact sK 30 false fun _=>vR;refine aC ?_ ?_;exact sK 30 false fun _=>vR;refine pW 3 30 17 44 ?_;refine pV 18 45 ?_;exact aD
 · intro u n a e;replace a:(VB B) w1 n:=bD a;have a4:u (.tmp 26)=.bool false:=e 19 26 rfl;simp only [zqq];rw [a4];clear e;have ae:=s.out.vb a.1;have ac:=LFS.of_vb gs own a;have A:=a.1.bk Y.out dC dC;have K:=A.cell 0;have L:=A.cell 2;obtain ⟨a2,al,ah,aj⟩:=hqq4 ae (ak.out.trans ac) (W.out.vb a y W.out.pos) A;clear ae ac A a a4;go_wp2_with fail;clear K L;go_loopw [52] (fun F wr=>∃(d:Nat) (own':Nat->Nat),d<=c/\F=.int .i64 (d:Int)/\StAt wr B own' gs gl most rate (t.take b++t.drop (b+d))/\LFS B gs n wr own own') (fun F _=>c -(intOf F).toNat)
   case atStart=>exact ⟨0,own,by omega,rfl,by rw [zBq,zAu];exact a2.out,LFS.refl _ _ _ _⟩
   case round=>
    obtain ⟨d,own',aE,rfl,l,r⟩:=hrel;by_cases aF:d < c
    · have ad:b+d < t.length:=(by rw [V.out];omega);have D:=aFK t (p:=b) (j:=d) oM;have Q:=aFK t (p:=b) (j:=d+1) oM;rw [V.out] at D Q;have C:=fun m (c:VB B wr m)=>uL m B own' gl (t.take b++t.drop (b+d)) rate b (l.vb c.1).live ((ah.out.below (r.below a2.out.size) y).vb c y (by have:=l.size;omega)) y (by rw [D];omega) (by rw [D];omega) l.r1 l.r2;unfold tQ at C;rw [aIH t ad] at C;have a7:=r.bk aj.out X.out.col X.out.ne dC dC;obtain ⟨ai,s,a1,Z,a0⟩:=hqq5 a7 l r C Q;clear l r C D Q a7 ad;go_wp2_with fail;refine wp_region_any kR ?_;refine cA B 6 [54,55,56,57,58,59] (fun _=>False) 3 [] (fun _=>True) (fun v _=>v=.pointer (some ⟨gl,0,none⟩)) [is gs,is gs,is gs,cX,is (.pointer (some ⟨w.heap.size,1,none⟩)),is (b:Int)] _ _ rfl dC kR kR kR (trivial) (fun _ _ _ _ _=>trivial) (fun _ _ _ q _=>q) tA1 ?_ ?_
      · refine bJ ?_;refine pH3 0 (.pointer (some ⟨gs,0,none⟩)) ?_;refine pV3 0 54 ?_;refine pV3 1 55 ?_;refine sC3 (fun _ m a _ _ _ _ e _ _ _ o=>?_) ?_
        · replace a:VFB B (fun _=>False) wr m:=fD a;have aA:_=_:=e 2 56 kR rfl;have S:=a.to_vb (fun _ _ g=>g);have au:=S.1.bk s.out.blk dC dC;have a3:=au.cell 0;go_simp;exact o _ _ (jQ (VFB.of_vb vR)) rfl
        refine pH3 3 (.pointer (some ⟨w.heap.size,0,none⟩)) ?_;refine sC3 (fun _ m a _ _ _ _ e _ _ _ o=>?_) ?_
        · replace a:VFB B (fun _=>False) wr m:=fD a;have aB:_=_:=e 4 58 kR rfl;have S:=a.to_vb (fun _ _ g=>g);have N:=S.1.bk ai.out dC dC;have a3:=N.cell 1;go_simp;exact o _ _ (aH vR) rfl
        exact aD
      · intro u n g a e a6;replace a:VFB B (fun _=>False) wr n:=fD a;have af:(fun v _=>v=.pointer (some ⟨gl,0,none⟩)) (u (.tmp 57)) n:=e 3 57 dC rfl;have ar:u (.tmp 59)=.int .i64 (b:Int):=e 5 59 dC rfl;obtain ⟨ay,ag⟩:=a6 3 dC;have ax:(fun v _=>v=.pointer (some ⟨gl,0,none⟩)) ay n:=ag;clear ag a6;simp only [zqq];rw [ar];clear e;have E:=a.to_vb (fun _ _ g=>g);rw [show u (.tmp 57)=_ from af];clear ax a af;change wpAny prog Region.Mode.any _ _ (1+g) (bX 6 7) _ n;rw [zCs 1 g];refine bG (f:=g) (i:=6) kR ?_;refine bV rfl rfl ?_;generalize o:wpAny prog _ _ _ g _=K5;go_simp;refine (Z.out n E).mono ?_;rintro aq aI ⟨rfl,aw,aa,ab⟩;subst o;refine bW kR ?_;have O:=(s.out.vb E.1).edited aa ab (by rw [a0.out];omega) (by rw [a0.out];have:=am.out;omega);obtain ⟨I,H⟩:=hqq2 O.1 (a1.out.trans ((LFS.of_vb gs own' E).trans O.2));clear O aa ab E s a1 Z;go_wp2_with fail;go_roundw
        case rel=>exact ⟨d+1,aw,by omega,by go_num,I.out,H.out⟩
        case measure=>simp [intOf];omega
    · obtain rfl:d=c:=oM;obtain ⟨I,H⟩:=hqq2 l (al.out.trans r);clear l r;go_wp2_with fail;go_ret;exact ⟨rfl,own',I.out,H.out⟩
theorem zN (B:Nat) (own:Nat->Nat) (gs gl most rate C:Nat) (t e:List UInt8) (c:Nat) (a1:Int) (z:Option Addr) (k N:Nat) (w:World) (v:StAt w B own gs gl most rate t) (R:TabW w) (E:1 < B) (F:t.length=C) (P:ArgZ w B own gs z k e) (b4:c+k<=C):
 Calls prog 74 #[gs,.agg #[.int .i64 3,(c:Int),.int .i64 a1,.slice z k N]] w (aFl w B own gs gl most rate (t.take c++(e++t.drop (c+e.length)))):=by
 have Q:e.length=k:=by simpa using P.1.1
 rw [Q];have g:=EdW.mk' 3 (c:Int) a1 z k N v;have ae:=P.vis g.low;have aj:=LFS.of_below B gs own g.low;have W:=lM B own gs gl most rate C t c k _ g.st F;have ai:iE C (c:Int) (k:Int)=true:=zBz oM;rw [ai] at W;have D:=g.box.cell 0;have aI:=g.box.cell 1;have aJ:=g.box.cell 2;have O:=g.box.cell 3;have aR:=v.n127;have Z:=v.len;rw [F] at aR Z;have af:=R.below g.low R.pos;obtain ⟨x,aw,aB,a5,a2,a6,a3,A,a4⟩:=hqq9 g.st ae aj g.ap W g.box F Q af;have aF:=lhd Z;clear v P g ae aj W ai F Q R af Z;go_enter func74,ntmps74;go_wp2_with fail;refine a2.out.mono ?_;rintro aK w1 ⟨rfl,rfl⟩;clear a2;go_wp2_with fail;generalize w.alloc (.cells #[.int .i64 3,(c:Int),.int .i64 a1,.slice z k N] 46)=w1 at*
 clear D aI aJ O;refine wp_region_any kR ?_;refine aQ [27,28,29,30,31,32,33,34,35,36,37,38,39,40,41,42,43,44,45,26] (VB B) (Vs [is w.heap.size,is (.int .i64 3),is (.bool false),is (.bool false),is undef,is undef,is undef,is undef,is undef,is undef,is undef,is undef,is undef,is undef,is undef,is undef,is undef,is undef,is (.bool false),is (.bool false)]) _ _ rfl kR vR (fun _ _=>VisK.trans) (cV tA1) ?_ ?_
 · refine aO ?_;refine pH 3 (.pointer (some ⟨w.heap.size,0,none⟩)) ?_;refine sC (fun _ o b _ _ _ d _ _ _ m=>?_) ?_
   · have aX:_=_:=d 0 27 kR rfl;replace b:(VB B) w1 o:=bD b;have U:=b.1.bk a6.out dC dC;have ab:=U.cell 0;go_simp;exact m _ _ vR rfl
   refine pV 1 28 ?_;refine pV 2 29 ?_;refine aC ?_ ?_;exact sK 30 false fun _=>vR;refine aC ?_ ?_;exact sK 30 false fun _=>vR;refine aC ?_ ?_;exact sK 30 false fun _=>vR;refine aC ?_ ?_;exact sK 30 false fun _=>vR;refine aC ?_ ?_;exact sK 30 false fun _=>vR;refine aC ?_ ?_;exact sK 30 false fun _=>vR;refine aC ?_ ?_;exact sK 30 false fun _=>vR;refine aC ?_ ?_;exact sK 30 false fun _=>vR;refine aC ?_ ?_;exact sK 30 false fun _=>vR;refine aC ?_ ?_;exact sK 30 false fun _=>vR;refine aC ?_ ?_;exact sK 30 false fun _=>vR;refine aC ?_ ?_;exact sK 30 false fun _=>vR;refine aC ?_ ?_;exact sK 30 false fun _=>vR;refine aC ?_ ?_;exact sK 30 false fun _=>vR;refine pW 3 30 17 44 ?_;refine pV 18 45 ?_;exact aD
 · intro u q b d;replace b:(VB B) w1 q:=bD b;have ad:u (.tmp 26)=.bool false:=d 19 26 rfl;simp only [zqq];rw [ad];clear d;have an:=x.out.vb b.1;have Y:=LFS.of_vb gs own b;have G:=b.1.bk a6.out dC dC;have D:=G.cell 0;have O:=G.cell 3;obtain ⟨aa,aE,ax,ay,aA⟩:=hqq5 an (aB.out.trans Y) (aw.out.step Y) (a4.out.vb b E a4.out.pos) G;clear an Y G b ad;go_wp2_with fail;clear D O;go_loopw [6,7,65] (fun _ _ K wr=>∃(a:Nat) (own':Nat->Nat),a<=k/\K=.int .i64 (a:Int)/\StAt wr B own' gs gl most rate (t.take c++(e.take a++t.drop (c+a)))/\LFS B gs q wr own own') (fun _ _ K _=>k -(intOf K).toNat)
   case atStart=>exact ⟨0,own,by omega,rfl,by rw [List.take_zero,List.nil_append,zBq,zAu];exact aa.out,LFS.refl _ _ _ _⟩
   case round=>
    obtain ⟨a,own',b3,rfl,n,s⟩:=hrel;by_cases aP:a < k
    · obtain ⟨r,S⟩:∃r,e[a]?=some r:=⟨_,zAa (by rw [A.out];exact aP)⟩;have am:c+a < t.length:=(by rw [a3.out];omega);have H:=aFs t e (p:=c) (j:=a) (by rw [A.out];omega) oM;have X:=aFs t e (p:=c) (j:=a+1) (by rw [A.out];omega) oM;rw [a3.out] at H X;have I:=fun o (aq:VB B wr o)=>aJa o B own' gl (t.take c++(e.take a++t.drop (c+a))) rate (c+a) r (n.vb aq.1).live ((ay.out.below (s.below aa.out.size) E).vb aq E (by have:=n.size;omega)) E (by rw [H];omega) (by rw [H];omega) n.r1 n.r2;unfold tQ at I;rw [aHG t e S am] at I;obtain ⟨aG,aS,rfl,b2,ah⟩:=((ax.out.step s).1).2 oM;have aW:wr.cell? ⟨aG,aS+a,none⟩=some (.int .u8 (r.toNat:Int)):=ah a _ (by rw [zAf,S];rfl);have T:=s.bk aA.out a5.out.col a5.out.ne dC dC;have az:=lhd T;have D:=T.cell 0;have ac:IntKind.i64.wrap ((c:Int)+(a:Int))=((c+a:Nat):Int):=(by rw [IntKind.wrap_i64];omega);obtain ⟨x,a8,a9,a7,av⟩:=hqq5 n s I X ac;clear ac n s I H X S ah T am;go_wp2_with fail;refine wp_region_any kR ?_;refine cA B 9 [73,74,75,76,77,78,79,80,81] (fun _=>False) 3 [] (fun _=>True) (fun y _=>y=.pointer (some ⟨gl,0,none⟩)) [is gs,is gs,is gs,cX,is (.pointer (some ⟨w.heap.size,1,none⟩)),is (c:Int),is (a:Int),is (.int .i64 ((c+a:Nat):Int)),is (.int .u8 (r.toNat:Int))] _ _ rfl dC kR kR kR (trivial) (fun _ _ _ _ _=>trivial) (fun _ _ _ v _=>v) tA1 ?_ ?_
      · refine bJ ?_;refine pH3 0 (.pointer (some ⟨gs,0,none⟩)) ?_;refine pV3 0 73 ?_;refine pV3 1 74 ?_;refine sC3 (fun _ o b _ _ _ _ d _ _ _ m=>?_) ?_
        · replace b:VFB B (fun _=>False) wr o:=fD b;have aY:_=_:=d 2 75 kR rfl;have a0:=b.to_vb (fun _ _ l=>l);have aN:=a0.1.bk x.out.blk dC dC;have ab:=aN.cell 0;go_simp;exact m _ _ (jQ (VFB.of_vb vR)) rfl
        refine pH3 3 (.pointer (some ⟨w.heap.size,0,none⟩)) ?_;refine sC3 (fun _ o b _ _ _ _ d _ _ _ m=>?_) ?_
        · replace b:VFB B (fun _=>False) wr o:=fD b;have aZ:_=_:=d 4 77 kR rfl;have a0:=b.to_vb (fun _ _ l=>l);have U:=a0.1.bk az.out dC dC;have ab:=U.cell 1;go_simp;exact m _ _ (aH vR) rfl
        refine pH3 6 (.int .i64 (a:Int)) ?_;refine sC3 (fun _ _ _ _ _ _ _ d _ _ _ m=>?_) ?_
        · have b0:_=_:=d 5 78 kR rfl;have b1:_=_:=d 6 79 kR rfl;go_simp;exact m _ _ (aH vR) (by first | rfl | exact congrArg (Value.int .i64) av.out)
        refine pH3 7 (.int .u8 (r.toNat:Int)) ?_;exact aD
      · intro u q l b d ag;replace b:VFB B (fun _=>False) wr q:=fD b;have ar:(fun y _=>y=.pointer (some ⟨gl,0,none⟩)) (u (.tmp 76)) q:=d 3 76 dC rfl;have aL:u (.tmp 80)=.int .i64 ((c+a:Nat):Int):=d 7 80 dC rfl;have aM:u (.tmp 81)=.int .u8 (r.toNat:Int):=d 8 81 dC rfl;obtain ⟨aV,au⟩:=ag 3 dC;have aU:(fun y _=>y=.pointer (some ⟨gl,0,none⟩)) aV q:=au;clear au ag;simp only [zqq];rw [aL];rw [aM];clear d;have J:=b.to_vb (fun _ _ l=>l);rw [show u (.tmp 76)=_ from ar];clear aU b ar;change wpAny prog Region.Mode.any _ _ (1+l) (bX 9 10) _ q;rw [zCs 1 l];refine bG (f:=l) (i:=9) kR ?_;refine bV rfl rfl ?_;generalize m:wpAny prog _ _ _ l _=K5;go_simp;refine (a9.out q J).mono ?_;rintro aK b5 ⟨rfl,aT,ak,al⟩;subst m;refine bW kR ?_;have V:=(x.out.vb J.1).edited ak al (by rw [a7.out];omega) (by rw [a7.out];have:=aF.out;omega);obtain ⟨M,L⟩:=hqq2 V.1 (a8.out.trans ((LFS.of_vb gs own' J).trans V.2));clear V ak al J x a8 a9;go_wp2_with fail;go_roundw
        case rel=>exact ⟨a+1,aT,by omega,by go_num,M.out,L.out⟩
        case measure=>simp [intOf];omega
    · obtain rfl:a=k:=oM;have ao:e.take a=e:=zAg (by rw [A.out];exact zAs _);rw [ao] at n;clear ao;obtain ⟨M,L⟩:=hqq2 n (aE.out.trans s);clear n s;go_wp2_with fail;go_ret;exact ⟨rfl,own',M.out,L.out⟩
section
open Go
theorem sX {s:Program} {b:Array Oper} {u:Exit->Act->World->Prop} {k:Region.Mode} (d:Nat) (v:List Nat) (g:Nat->Prop) (c:Nat) (y:List Nat) (q:World->Prop) (p:Value->World->Prop) (o:List (Value->World->Prop)) (l:Act) (i:World)
 (K:(b.toList.take d).filterMap (·.dst)=v) (N:d<=b.size) (M:gZ k b l.tmps.size=true) (T:((List.range b.size).all fun e=>decide (e < d)||(List.range d).all fun a=>upB k b b.size e a)=true)
 (Q:(y.all fun a=>a==c||upB k b b.size c a)=true)
 (P:q i) (O:∀w w',q w->Keep g i w->Grow w w'->q w') (J:Stb p) (R:∀V∈o,uP g V)
 (S:∀j F,j < d->b[j]?=some F->cY s b u k (Keep g i) (pQ g c) (fun a w=>y.contains a=true->q w) (VsJ c p o) l j F)
 (L:∀(A:Operand->Value) w f,Keep g i w->(∀a z,a < d->((b[a]?).bind (·.dst))=some z->VsJ c p o a (A (.tmp z)) w)->(∀a,a < d->∃r,VsJ c p o a r w)->wpAny s k b u (b.size - d+f) (bX d b.size) (dI A v l) w):
 wpAny s k b u b.size (Array.replicate b.size false) l i:=by
 refine tR d v (Keep g i) (pQ g c) (fun a w=>y.contains a=true->q w) (VsJ c p o) l i K N M T (Keep.refl _ _) (fun _ _=>P) (fun j w w' _ H e=>H.trans (jN e)) (fun a j w w' _ x U m I e D=>?_) (fun a j r w w' _ x _ n _ e=>?_) S L;by_cases E:j=c;exfalso;subst E;have C:=zBf.1 Q a (by simpa using D);simp only [U,Bool.or_false,zCq] at C;exact x C;exact O w w' (m D) I (e.2 E);unfold VsJ at n⊢;by_cases m:a=c;rw [zBx m] at n⊢;exact J r w w' n (e.2 fun G=>x (m.trans G.symm));rw [zBw m] at n⊢;exact vV R a r w w' n (jN e)
end
def aI3 (w:World) (B:Nat) (own:Nat->Nat) (gs most rate:Nat) (t:List UInt8) (a:Ending) (w':World):Prop:=
 a=.returned (.int .i64 0)/\∃own' b,StAt w' B own' gs b most rate t/\LFS B gs w w' own own'
theorem yJ (B:Nat) (own:Nat->Nat) (gs gl y am most rate:Nat) (C:Option Addr) (z n:Nat) (an t:List UInt8) (g:List Nat) (w:World) (c:StAt w B own gs gl y am an) (ai:IsSuf (aF t) g) (X:t.length<=127)
 (Z:1<=rate) (a0:rate<=64) (V:t.length<=most) (W:most<=2147483648) (K:(dN (aE (aF t) g) g most rate t.length).length=z) (Y:Rd w w.heap.size 1 C z ((dN (aE (aF t) g) g most rate t.length).map bv)) (ae:z<=n) (af:n<=maxLen):
 Calls prog 29 #[gs,.slice C z n] w (aI3 w B own gs most rate t):=by
 have v:=jG C n w.heap.size most rate t g w ai X Z a0 V W (by rw [K];exact Y) nL (by rw [K];exact ae) af;rw [K] at v;unfold lP at v;obtain ⟨O,D⟩:=hqq2 v c;clear v Y c;go_enter func29,ntmps29;go_wp2_with fail;refine O.out.mono ?_;rintro aw w1 ⟨k,rfl,⟨own1,a1⟩,x⟩;have aG:=x.1.size;have P:=lhd x;have J:=x.1.bk D.out.blk dC dC;have T:=D.out.blk.lt;obtain ⟨q,ah⟩:=eqx w1.heap.size;have r:Below w1.heap.size w1 (w1.alloc (.cells #[(most:Int),(rate:Int),(t.length:Int)] 30)):=bR.alloc nL _;have U:Bk (w1.alloc (.cells #[(most:Int),(rate:Int),(t.length:Int)] 30)) q 30 #[(most:Int),(rate:Int),(t.length:Int)]:=ah ▸ Bk.new _ _ _;have S:=J.below r J.lt;obtain ⟨E,m,M,N,a6⟩:=hqq5 (a1.vis (Vis.of_below r)) r S U (show ¬q=gs by omega);clear a1 x O r U J S;unfold iA;go_wp2_with fail;generalize aa:w1.alloc (.cells #[(most:Int),(rate:Int),(t.length:Int)] 30)=W1 at E m M N⊢;clear aa;refine wp_region_any kR ?_;refine sX 10 [18,19,20,21,22,23,24,25,26] (fun a=>a=gs) 7 [7] (fun j=>Bk j gs 115 #[gl,(y:Int)]) (fun _ j=>Bk j gs 115 #[k,.int .i64 (y:Int)]) [is gs,is gs,is k,is q,is (most:Int),is gs,is gs,cX,is gs,is (.pointer (some ⟨gs,1,none⟩))] _ _ rfl dC kR kR kR (M.out) (fun w1 j c _ ag=>Bk.below c ag c.lt) (fun _ _ _ c aj=>Bk.below c aj c.lt) tA0 ?_ ?_
 · refine bJ ?_;refine pH3 0 (.pointer (some ⟨gs,0,none⟩)) ?_;refine pH3 0 (.pointer (some ⟨gs,0,none⟩)) ?_;refine pH3 5 (.pointer (some ⟨k,0,none⟩)) ?_;refine pH3 6 (.pointer (some ⟨q,0,none⟩)) ?_;refine sC3 (fun _ ap e _ _ _ _ d _ _ _ l=>?_) ?_
   · replace e:Keep (fun a=>a=gs) W1 ap:=kD e;have ay:_=_:=d 3 21 kR rfl;have av:=(Keep.bk e N.out a6.out).cell 0;go_simp;exact kq l rfl
   refine pV3 0 18 ?_;refine pV3 5 23 ?_;refine sC3 (fun _ _ _ a9 _ _ _ d _ _ _ l=>?_) ?_
   · have L:=a9 rfl;have az:_=_:=d 6 24 kR rfl;have ax:_=_:=d 2 20 kR rfl;have aB:=L.frozen 0;have au:=L.cell 0;go_simp;exact l (.bool true) _ (aV (Keep.setCell (F:=fun a=>a=gs) (Keep.refl _ _) (p:=⟨gs,0,none⟩) (.inl rfl) _)) (L.set 0 _)
   refine pV3 1 19 ?_;refine pV3 8 25 ?_;exact aD
 · intro Q A b e d R;replace e:Keep (fun a=>a=gs) W1 A:=kD e;have a7:Q (.tmp 22)=.int .i64 (most:Int):=d 4 22 dC rfl;have a8:Q (.tmp 26)=.pointer (some ⟨gs,1,none⟩):=d 9 26 dC rfl;simp only [zqq];rw [a7];rw [a8];clear d;obtain ⟨ao,a2⟩:=R 7 dC;have al:(fun _ j=>Bk j gs 115 #[k,.int .i64 (y:Int)]) ao A:=a2;clear a2 R;have s:=al;have aA:=s.frozen 1;have ar:=s.cell 1;obtain ⟨a3,a5⟩:=hqq2 s e;clear s;change wpAny prog Region.Mode.any _ _ (1+b) (bX 10 11) _ A;rw [zCs 1 b];refine bG (f:=b) (i:=10) kR ?_;refine bV rfl rfl ?_;generalize l:wpAny prog _ _ _ b _=K5;go_simp;subst l;refine bW kR ?_;have u:Keep (fun a=>a=gs) W1 (A.setCell ⟨gs,1,none⟩ (.int .i64 (most:Int))):=a5.out.setCell (p:=⟨gs,1,none⟩) (.inl rfl) _;have ab:=a3.out.set 1 (.int .i64 (most:Int));obtain ⟨aq,a4⟩:=hqq2 u ab;have H:=D.out;go_wp2_with fail;go_ret;have aC:=m.out.size;have ad:=H.size;have ac:=E.out.bnd;have G:∀a,a < w.heap.size->own1 a=0:=fun a I=>Nat.eq_zero_of_not_pos fun b=>by have:=(ac a oM).1;omega
   refine ⟨rfl,own1,k,⟨a4.out,H.low,G _ T,(E.out.far0 u (fun a b=>by have o:a=gs:=b;subst o;exact G _ T)).low ad,X,V,W,Z,a0⟩,⟨fun a I b=>absurd (G a I) b,?_,?_⟩⟩;exact ((VisF.of_vis P.out.1).trans' (VisF.of_vis (Vis.of_below m.out)) (fun a _ b=>b)).trans' (VisF.of_keep u) (fun a _ b=>.inr b)
   · have ak:Keep (fun a=>B<=a) w w1:=P.out.2.mono fun a I b=>by have o:w.heap.size<=a:=b;show B<=a;omega
     exact (ak.trans (Keep.of_below m.out)).trans (u.mono fun a _ b=>by have o:a=gs:=b;subst o;exact H.low)
end Go.Proofs.YthldmddkfbijhaaGreatDoor
