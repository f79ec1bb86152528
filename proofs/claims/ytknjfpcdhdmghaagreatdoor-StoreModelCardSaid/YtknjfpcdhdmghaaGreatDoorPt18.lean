/- Lemmas of the walk. Conditions: each its own. -/
import Derived.Test.YtknjfpcdhdmghaaGreatDoorPt16
import Derived.Test.YtknjfpcdhdmghaaGreatDoorShi
set_option linter.all false
set_option maxRecDepth 100000
set_option maxHeartbeats 2000000
open Go.Proofs.Tryz
namespace Go.Proofs.YtknjfpcdhdmghaaGreatDoor
section
open Go.RowKit
def ix9 (a:Nat->Value) {lv:Nat} (b:lv < 9) (w):(Instr.index 189 (.agg #[a 0,a 1,a 2,a 3,a 4,a 5,a 6,a 7,a 8]) (.int .i64 lv)).run prog w=.ok (a lv) w:=by
 rcases lv with _ | _ | _ | _ | _ | _ | _ | _ | _ | lv
 all_goals first |(exfalso;omega)| kernel_rfl
def iZ {B gv:Nat} {L} (b:Nat) {s:Nat} {w} (aH:WaveAt w B gv L) (t:s < 257) (ak:b<=L.length) (H:∀l∈L,l < 257) (aK:L.length<=1000):
 Calls prog 180 #[gv,(b:Int),(s:Int)] w λp w'=>p=.returned (.int .i64 ((L.take b).count s:Nat))/\VB B w w':=by
 have ag:=nG (L:=L) (k:=b) (s0:=s) ak H t;have ah:=aCu L b s;obtain ⟨ai,c,a1,i,am⟩:=aH;have u:=i.set 10 (.int .i64 0);rw [eS] at u;have W:=VB.N i ai 0;obtain ⟨o,O⟩:=eqx L.length;rw [O] at i u ak aK;have bt:max (b:Int) 0=(b:Int):=oM;have bu:min (b:Int) (o:Int)=(b:Int):=oM;have aG:=i.frozen 10;have aX:w.cell? ⟨gv,10,none⟩=some (.int .i64 a1):=(i.cell 10).trans (cK c o a1).2.2.2.2.2.2.2.2.2.2;have bo:=i.lt;obtain ⟨b0,I⟩:=eqx (w.setCell ⟨gv,10,none⟩ (.int .i64 0));rw [I] at u W;obtain ⟨D,a4,ay,ap,aq,aY,aZ,ar⟩:=hqq8 u W am ag ah H O I;clear i am u W ag ah H O I;go_enter func180,ntmps180;go_wp2_with fail;rw [ar.out];refine (fW (s:=s) _ t).mono ?_;rintro p w1 ⟨rfl,J⟩;have f:=D.below J D.lt;have an:=a4.below J;obtain ⟨a6,a7,a8,a9,aa,ab,ac,ad,ae,af,aD⟩:=cK c (o:Int) 0;have b4:w1.cell? gv=some (c 0):=(f.cell 0).trans a6;have b5:w1.cell? ⟨gv,1,none⟩=some (c 1):=(f.cell 1).trans a7;have b6:w1.cell? ⟨gv,2,none⟩=some (c 2):=(f.cell 2).trans a8;have b7:w1.cell? ⟨gv,3,none⟩=some (c 3):=(f.cell 3).trans a9;have b8:w1.cell? ⟨gv,4,none⟩=some (c 4):=(f.cell 4).trans aa;have b9:w1.cell? ⟨gv,5,none⟩=some (c 5):=(f.cell 5).trans ab;have ba:w1.cell? ⟨gv,6,none⟩=some (c 6):=(f.cell 6).trans ac;have bb:w1.cell? ⟨gv,7,none⟩=some (c 7):=(f.cell 7).trans ad;have bc:w1.cell? ⟨gv,8,none⟩=some (c 8):=(f.cell 8).trans ae;have bd:w1.cell? ⟨gv,9,none⟩=some (.int .i64 o):=(f.cell 9).trans af;obtain ⟨av,E⟩:=hqq2 f an;clear a6 a7 a8 a9 aa ab ac ad ae af aD f an J D a4 aX aG;go_wp2_with fail;go_loopw [1,28] (λl a0 wr=>∃lv:Nat,lv<=9/\a0=.int .i64 lv/\l=.int .i64 (gO L b s lv:Nat)/\VB B w1 wr) (λ_ a0 _=>9 -(intOf a0).toNat)
 case atStart=>exact ⟨0,by omega,rfl,by rw [ap.out],VisK.refl _ _⟩
 case round=>
  obtain ⟨lv,bp,rfl,rfl,U⟩:=hrel;by_cases z:lv < 9
  .have aJ:=ix9 (lv:=lv) c z;obtain ⟨C,q,T⟩:=ay lv z;obtain ⟨x,N⟩:=eqx (2 ^ lv);obtain ⟨a,r⟩:=eqx (bF s lv);have al:a < x:=(by rw [<-N,<-r];exact nY (s:=s) lv t oM);rw [N] at q T;obtain ⟨m,a5,aj,bq,bn⟩:=kj q oM;rw [aj] at aJ q;obtain ⟨l,A⟩:=eqx (gO L b s lv);obtain ⟨a2,Z⟩:=eqx (gO L b s (lv+1));obtain ⟨G,M⟩:=eqx (iF s lv);have Y:=nH (lv:=lv) L b s z;have X:=aId L b s lv;rw [r,A,M,Z] at Y;rw [r,A] at X;rw [A];have br:(a:Int) < x:=oM;obtain ⟨aA,az,aw,a3,ax,au,aC,y⟩:=hqq8 Y X q (T a al) r M Z U;clear q T aj N r A Z M Y X U;go_wp2_with fail;refine wp_region_any kR<|aQ (S:=(VB B)) (V:=(Vs [is gv,is (.slice (some m) x a5),is (s:Int),is (lv:Int),is (a:Int),is (.pointer (some ⟨m,a*3,none⟩)),is (.agg #[.pointer (some ⟨C a,0,none⟩),(lv:Int),(a:Int)]),is (l:Int),is (s:Int),is (lv:Int),is (.bool G),is (a2:Int),is (a2:Int)])) [32,33,34,35,36,37,38,39,40,41,42,43,1] _ rfl kR vR (λ_ _=>VisK.trans) (dI tA0) ?_ ?_
   .refine aL<|pH 0 (.pointer (some gv))<|pH 8 (.slice (some m) x a5)<|pH 2 (.int .i64 s)<|pH 7 (.int .i64 lv)<|sC (λ_ g _ _ _ _ d _ _ _ j=>?_) ?_
    .have bf:_=_:=d 2 34 kR rfl;have bg:_=_:=d 3 35 kR rfl;go_simp;refine (mI (s:=s) lv g t oM).mono ?_;rintro p ao ⟨rfl,K⟩;rw [ax.out];exact j _ _ (kc K) rfl
    refine pW 1 33 4 36<|sC (λ_ g e _ _ _ d _ _ _ j=>?_) ?_
    .have bh:_=_:=d 5 37 kR rfl;replace e:(VB B) wr g:=bD e;have R:=(E.trans (y.trans e)).1.own aw dC dC;obtain ⟨aS,aT,aU⟩:=gF C lv x a al;have b1:g.cell? ⟨m,a*3,none⟩=_:=(kh R (a*3) oM).trans aS;have b2:g.cell? ⟨m,a*3+1,none⟩=_:=(kh R (a*3+1) oM).trans aT;have b3:g.cell? ⟨m,a*3+2,none⟩=_:=(kh R (a*3+2) oM).trans aU;go_simp;exact j _ _ vR rfl
    refine pH 1 (.int .i64 l)<|pH 2 (.int .i64 s)<|pH 7 (.int .i64 lv)<|sC (λ_ g _ _ _ _ d _ _ _ j=>?_) ?_
    .have bk:_=_:=d 8 40 kR rfl;have bl:_=_:=d 9 41 kR rfl;go_simp;refine (oQ (s:=s) (lv:=lv) g t z).mono ?_;rintro p ao ⟨rfl,K⟩;rw [au.out];exact j _ _ (kc K) rfl
    refine sC (λ_ g e _ _ _ d _ _ _ j=>?_) ?_
    .have be:_=_:=d 0 32 kR rfl;have bi:_=_:=d 6 38 kR rfl;have bj:_=_:=d 7 39 kR rfl;have bm:_=_:=d 10 42 kR rfl;replace e:(VB B) wr g:=bD e;go_simp;obtain ⟨aV,aR⟩:=(y.trans e).1.Q av;have aN:=a3.2.b (E.trans (y.trans e)).1;refine (tN (gv:=gv) (gt:=(C a)) (S:=c) (n:=o) (v:=aV) (bs:=(aM L lv a)) (k:=l) (w:=g) lv a G aR aN az).mono ?_;rintro p ao ⟨rfl,aP⟩;rw [aA.out];exact j _ _ (aP.mono λG i=>by rcases i with rfl | rfl;exact ai;exact a3.1) rfl
    refine pV 11 43 ?_;exact aB
   .intro aF aW e d;replace e:(VB B) wr aW:=bD e;have aE:aF (.tmp 1)=.int .i64 a2:=d 12 1 rfl;simp only [zqq];rw [aE];clear d;have aO:=y.trans e;go_wp2_with fail;go_roundw
    case rel=>exact ⟨lv+1,by omega,by go_num,by rw [aC.out],aO⟩
    case measure=>exact zr
  .have aI:lv=9:=oM;subst aI;rw [aq.out];go_wp2_with fail;go_ret;exact ⟨rfl,E.trans U⟩
def aHa:(prog.info? 131).map (λa=>(a.zero,a.size,a.bytes))=some (some (.slice none 0 0),1,24):=by kernel_rfl
def aGi:(prog.info? 194).map (λa=>(a.zero,a.size,a.bytes))=some (some (.agg #[.pointer none,o0,o0]),3,24):=by kernel_rfl
def aKy (a:Nat) (i:a<=1000000) (w):(Instr.makeSlice 224 (.int .i64 a) (.int .i64 a)).run prog w=.ok (.slice (some w.heap.size) a a) (w.alloc (.cells (rowC (λ_=>.slice none 0 0) a) 131)):=by
 obtain ⟨g,c,d,e,f⟩:=info_parts aHa;have:=run_make (P:=prog) w 224 131 g (.slice none 0 0) underlying224 c d .i64 .i64 a a oM (zFF _) (by rw [f];omega) oM;rw [this,e,aGo];have b:madeCells #[()] a=Array.replicate a (.slice none 0 0):=by apply zFs;rw [toList_madeCells_one];simp
 simp only [Value.cells,zBr,zBl];rw [b]
def yY:(prog.info? 5).map (λa=>(a.zero,a.size,a.bytes))=some (some (.int .u8 0),1,1):=by kernel_rfl
def aMk {a:Nat} (w) (o:a<=1099511627776):
 Calls prog 92 #[(),(a:Int)] w λd w'=>∃c,d=.returned c/\w'.ownsRow w.heap.size 5 1 c 0 []/\Below w.heap.size w w':=by
 obtain ⟨l,e,j,p,k⟩:=info_parts yY;rcases zBa a with b | b
 .subst b;go_enter func92,ntmps92;go_wp2;go_ret;exact ⟨_,rfl,ki _ _ _ _,kg _ _⟩
 .have g:=Lib.run_append_nil_zeros (P:=prog) w 22 3 22 5 l (.int .u8 0) .i64 .i64 underlying22 underlying3 e j a b oM oM (by rw [k];omega);have n:=grownCap_ge w a 0 5;have f:=grownCap_le_maxLen w a 0 5 zx;generalize grownCap w a 0 5=cp at*
  have i:(Builtin.zeroCells (Value.int .u8 0).cells a++Builtin.zeroCells (Value.int .u8 0).cells (cp - a)).size=cp*1:=(by simp [Builtin.zeroCells,Value.cells];omega);have m:¬((a:Int) < 0):=oM;go_enter func92,ntmps92;go_wp2_with (at_builtin;refine Lib.wpList_append_run _ rfl (.tmp 20) (.tmp 21) _ _ rfl _ _ rfl rfl _ _ g ?_);go_ret;exact ⟨_,rfl,zFK _ _ _ nL f i,bR.drew.alloc nL _⟩
structure Sl where
 A:Option Addr
 n:Nat
 c:Nat
 l:List UInt8
def slV (a:Sl):Value:=.slice a.A a.n a.c
def iV (a:List Sl):List UInt8:=a.flatMap (·.l)
def aCr {b:List Sl} {a:Nat} {c:Sl} (d:b[a]?=some c):iV (b.take (a+1))=iV (b.take a)++c.l:=by
 rw [zAv,d];simp [iV]
def aDn (a b):(iV (a.take b)).length<=(iV a).length:=by
 have:iV a=iV (a.take b)++iV (a.drop b):=by unfold iV;rw [<-zDI,zAu]
 rw [this,zAi];omega
def oX {A0 m0} (O) {B ss T N} (s:iV ss=T) (G:T.length=N) {w} (x:Rd w B 1 A0 m0 (ss.map slV)) (y:∀b∈ss,Rd w B 1 b.A b.n (b.l.map bv)) (hB:B<=w.heap.size) (ac:m0<=1099511627776) (a0:N<=1099511627776):
 Calls prog 56 #[.slice A0 m0 O] w λE w'=>∃p q,E=.returned (.slice p N q)/\Made w' w.heap.size 5 1 p N q (T.map bv)/\Below w.heap.size w w':=by
 obtain ⟨a8,X,a5,a6,a7⟩:=info_parts yY;have i:ss.length=m0:=by simpa using x.1
 have H:∀a,(iV (ss.take a)).length<=1099511627776:=λa=>by have:=aDn ss a;rw [s] at this;omega
 have J:∀a b,ss[a]?=some b->b.l.length=b.n/\(iV (ss.take (a+1))).length=(iV (ss.take a)).length+b.n:=λa b d=>by
  have j:=(y b (zAd d)).1;have e:b.l.length=b.n:=by simpa using j
  rw [aCr d,zAi,e];exact ⟨rfl,rfl⟩
 have D:=(x.mono hB);have L:=(λb d=>(y b d).mono hB);clear x y;go_enter func56,ntmps56;go_wp2;go_loopw [3,11] (λC g wr=>∃a:Nat,a<=m0/\g=.int .i64 a/\C=.int .i64 ((iV (ss.take a)).length:Int)/\w=wr) (λ_ g _=>m0 -(intOf g).toNat)
 case atStart=>exact ⟨0,zAp _,rfl,by simp [iV],rfl⟩
 case round=>
  obtain ⟨a,Y,rfl,rfl,rfl⟩:=hrel;by_cases v:a < m0
  .obtain ⟨b,d⟩:∃b,ss[a]?=some b:=⟨ss[a]'(zj i),zAa (zj i)⟩;obtain ⟨M,a9,aa,rfl,U,f,t⟩:=D.get v;rw [zAf,d] at f;simp at f;subst f;unfold slV at t;obtain ⟨j,e⟩:=J a b d;have r:=H (a+1);generalize I:(iV (ss.take a)).length=z at*
   rw [e] at r;clear j d I;have ad:¬((z:Int)+b.n < 0):=oM;go_wp2;go_roundw
   case rel=>exact ⟨a+1,by omega,by go_num,by rw [e];go_num,trivial⟩
   case measure=>exact zr
  .have u:a=m0:=oM;have W:m0<=a:=oM;have o:ss.take a=ss:=zAg (zj i);rw [o,s,G];clear u o;go_wp2_with fail;refine (aMk _ a0).mono ?_;rintro E w1 ⟨ae,rfl,a1,S⟩;go_wp2_with fail;go_loopw [6,27] (λC g wr=>∃a:Nat,a<=m0/\g=.int .i64 a/\wr.ownsRow w.heap.size 5 1 C (iV (ss.take a)).length ((iV (ss.take a)).map bv)/\Below w.heap.size w wr) (λ_ g _=>m0 -(intOf g).toNat)
   case atStart=>exact ⟨0,zAp _,rfl,a1,S⟩
   case round=>
    obtain ⟨a,Y,rfl,m,k⟩:=hrel;have K:=k.size;by_cases v:a < m0
    .obtain ⟨b,d⟩:∃b,ss[a]?=some b:=⟨ss[a]'(zj i),zAa (zj i)⟩;obtain ⟨M,a9,aa,rfl,U,f,t⟩:=(D.below k).get v;rw [zAf,d] at f;simp at f;subst f;unfold slV at t;have a3:=((L b (zAd d)).below k);obtain ⟨j,e⟩:=J a b d;have r:=H (a+1);have a4:=(aCr d);generalize I:(iV (ss.take a)).length=z at*
     rw [e] at r;clear j d;go_wp2_with (at_builtin;refine bE _ rfl (.tmp 31) (.tmp 32) _ rfl w.heap.size 5 a8 (.int .u8 0) 1 1 underlying22 X a5 a6 a7 rfl dC _ z _ rfl m w.heap.size b.A b.n b.c _ rfl a3 (jI _) zx oM K ?_;intro af ag a2 V ab);have R:=aX k m V K;go_roundw
     case rel=>refine ⟨a+1,by omega,by go_num,?_,R⟩;rw [e,a4,zAz];exact a2
     case measure=>exact zr
    .have u:a=m0:=oM;have W:m0<=a:=oM;have o:ss.take a=ss:=zAg (zj i);rw [o,s,G] at m;obtain ⟨p,q,rfl,Z⟩:=aR m;clear u o m;go_wp2;go_ret;exact ⟨p,q,rfl,Z,k⟩
end
section
open Go.RowKit Go
section
variable {P : Program} {ops : Array Oper} {Q : Exit -> Act -> World -> Prop} {md : Region.Mode}
end
def VFB (B:Nat) (F:Nat->Prop) (w w':World):Prop:=VisF F w w'/\Keep (λa=>F a∨B<=a) w w'
def fD {B F w w'} (a:VFB B F w.drew w'):VFB B F w w':=⟨⟨a.1.os,a.1.tape,a.1.output,a.1.size,a.1.block⟩,⟨a.2.os,a.2.tape,a.2.output,a.2.size,a.2.block⟩⟩
section
variable {B : Nat} {F : Nat -> Prop} {w w1 w' : World}
def VFB.i (a:VB B w w'):VFB B F w w':=⟨VisF.C a.1,a.2.mono λ_ _ b=>.inr b⟩
def VFB.trans (a:VFB B F w w1) (b:VFB B F w1 w'):VFB B F w w':=⟨a.1.trans b.1,a.2.trans b.2⟩
def VFB.put (b:VFB B F w w1) {p} (c:F p.block∨w.heap.size<=p.block) (a):VFB B F w (w1.setCell p a):=⟨VisF.put b.1 c a,b.2.setCell (c.elim (λd=>.inl (.inl d)) .inr) a⟩
def VFB.wider {d} (b:VFB B F w w') (e:∀a,F a->d a):VFB B d w w':=⟨⟨b.1.os,b.1.tape,b.1.output,b.1.size,λa f g=>b.1.block a f (λc=>g (e a c))⟩,b.2.mono λa _ c=>c.elim (λc=>.inl (e a c)) .inr⟩
def VFB.y (c:VFB B F w w') (d:∀a,a < w.heap.size->¬F a):VB B w w':=⟨c.1.ak d,c.2.mono λa e b=>b.elim (λb=>absurd b (d a e)) id⟩
end
def aIe (B:Nat) (F:Nat->Prop) (a b:Nat) (w w':World):Prop:=(b=a->VFB B F w w')/\(b≠a->VB B w w')
def aB1 {B F a d w w'} (b:aIe B F a d w w'):VFB B F w w':=by
 by_cases c:d=a;exact b.1 c;exact VFB.i (b.2 c)
def aI {B F b c w w'} (a:VB B w w'):aIe B F b c w w':=⟨λ_=>VFB.i a,λ_=>a⟩
def lC {B F a w w'} (c:VFB B F w w'):aIe B F a a w w':=⟨λ_=>c,λb=>absurd rfl b⟩
def cC {P:Program} {ops:Array Oper} {Q:Exit->Act->World->Prop} {md:Region.Mode} (B c:Nat) (p:List Nat) (F:Nat->Prop) (d:Nat) (v:List Nat) {pre:World->Prop} {pJ:Value->World->Prop} (l:List (Value->World->Prop)) (k:Act) {g:World} (C:(ops.toList.take c).filterMap (·.dst)=p) (G:c<=ops.size) (E:kL md ops k.tmps.size=true) (M:((List.range ops.size).all λb=>decide (b < c)||(List.range c).all λa=>upB md ops ops.size b a)=true) (J:(v.all λa=>a==d||upB md ops ops.size d a)=true) (I:pre g) (H:∀w w',pre w->VFB B F g w->VB B w w'->pre w') (A:aJB (VB B) pJ) (K:∀O∈l,aJB (VFB B F) O) (L:∀e u,e < c->ops[e]?=some u->dN P ops Q md (VFB B F g) (aIe B F d) (λa w=>v.contains a=true->pre w) (VsJ d pJ l) k e u) (D:∀(q:Operand->Value) w f,VFB B F g w->(∀a o,a < c->((ops[a]?).bind (·.dst))=some o->VsJ d pJ l a (q (.tmp o)) w)->(∀a,a < c->∃m,VsJ d pJ l a m w)->wpAny P md ops Q (ops.size - c+f) (bT c ops.size) (dJ q p k) w):
 wpAny P md ops Q ops.size (Array.replicate ops.size false) k g:=by
 refine xM C G E M (VFB.i vR) (λ_ _=>I) (λe w w' _ y b=>y.trans (aB1 b)) (λa e w w' _ n N i z b s=>?_) (λa e m w w' _ n _ j _ b=>?_) L D;by_cases t:e=d;exfalso;subst t;have r:=zBf.1 J a (by simpa using s);simp only [N,zGn,zCr] at r;exact n r;exact H w w' (i s) z (b.2 t);unfold VsJ at j⊢;by_cases i:a=d;rw [zBx i] at j⊢;exact A m w w' j (b.2 λx=>n (i.trans x.symm));rw [zBw i] at j⊢;exact dI K a m w w' j (aB1 b)
end
section
open Go.RowKit
def xO {a b} (c:a.Perm b):tcells a=tcells b:=by
 refine sZ _ _ (fI a) (λe d=>?_) ?_
 .rw [eH a d,c.count_eq]
 .rw [jE,c.length_eq]
def aF4 {b d a} (k:a < 257) (e:b.Perm (a::d)):((tcells b).setIfInBounds a (.int .i64 (((b.count a - 1:Nat)):Int))).setIfInBounds 257 (.int .i64 (b.length - 1:Nat))=tcells d:=by
 have f:=e.count_eq;have g:=e.length_eq;rw [zCg] at g;apply sZ
 .simp [fI]
 .intro i j;rw [zCe oM];by_cases c:a=i
  .subst c;rw [zDt (by rw [fI];omega),f a];simp
  .rw [zCe c,eH b j,f i,List.count_cons_of_ne c]
 rw [zDt (by simp [fI]),g];rfl
def aDH {a:Nat} {c z} {b:Nat} {w} (s:c.Perm (b::z)) (f:Bk w a 207 (tcells c)) (n:b < 257) (G:c.length<=1000):
 Calls prog 167 #[a,(b:Int),(-1:Int)] w λA w'=>A=.returned (.int .i64 0)/\Bk w' a 207 (tcells z)/\Keep (λg=>g=a) w w':=by
 have r:=f;clear f;have a0:¬((b:Int) < 0):=oM;have a1:((b:Int) < 257):=oM;obtain ⟨d,i⟩:=eqx (c.count b);obtain ⟨j,l⟩:=eqx c.length;have a5:d<=1000:=by rw [<-i];exact zAk zBv G
 rw [l] at G;have a4:1<=d:=by rw [<-i,s.count_eq];simp
 have a3:1<=j:=by rw [<-l,s.length_eq];simp
 have C:=aF4 n s;rw [i,l] at C;go_enter func167,ntmps167;go_wp2_with fail;refine (fW _ n).mono ?_;rintro A w1 ⟨rfl,E⟩;have v:=r.below E r.lt;have K:w1.cell? ⟨a,b,none⟩=some (.int .i64 d):=by rw [<-i];exact (v.cell b).trans (eH c n)
 have L:w1.cell? ⟨a,257,none⟩=some (.int .i64 j):=by rw [<-l];exact (v.cell 257).trans (jE c)
 have a6:¬((-1:Int) < -(d:Int)):=oM;have a7:¬((-1:Int) > 2147483648 -(j:Int)):=oM;clear r;go_wp2_with fail;refine wp_region_any kR<|bM (pJ:=(λ_ q=>Bk q a 207 ((tcells c).setIfInBounds b (.int .i64 (d - 1:Nat))))) [33,34,35,36,37,38,39,40,41,42,43] (λg=>g=a) 11 [5,11] [is a,is (b:Int),is a,is a,is (.pointer (some ⟨a,b,none⟩)),is (d:Int),is (.int .i64 (-1)),is (.int .i64 (d - 1:Nat)),is a,is a,is (.pointer (some ⟨a,b,none⟩)),cO] _ rfl kR kR (v) (λq a9 f _ H=>kf f H f.lt) (λ_ _ _ f I=>kf f I f.lt) tA1 ?_ ?_
 .refine aL<|pH3 0 (.pointer (some a))<|pH3 1 (.int .i64 b)<|pV3 0 33<|pV3 2 35<|pW3 3 36 1 34<|sC3 (λ_ x _ u _ _ _ e _ _ _ k=>?_) ?_
  .have m:=u rfl;have R:_=_:=e 4 37 kR rfl;have N:x.cell? ⟨a,b,none⟩=some (.int .i64 d):=(by rw [<-i];exact (m.cell b).trans (eH c n));go_simp;exact kq k rfl
  refine pH3 2 (.int .i64 (-1))<|sC3 (λ_ _ _ _ _ _ _ e _ _ _ k=>?_) ?_
  .have S:_=_:=e 5 38 kR rfl;have T:_=_:=e 6 39 kR rfl;go_simp;exact k _ _ (aE bR) (cS zu)
  refine pV3 0 33<|pV3 8 41<|pW3 9 42 1 34<|sC3 (λ_ x _ u _ _ _ e _ _ _ k=>?_) ?_
  .have m:=u rfl;have V:_=_:=e 10 43 kR rfl;have U:_=_:=e 7 40 kR rfl;have O:x.cell? ⟨a,b,none⟩=some (.int .i64 d):=(by rw [<-i];exact (m.cell b).trans (eH c n));have Z:=m.frozen b;go_simp;exact k (.bool true) _ (aW (ka (F:=λg=>g=a) (ke _ _) (p:=⟨a,b,none⟩) (.inl rfl) _)) (m.set b _)
  exact aB
 .intro X y t e D;replace t:Keep (λg=>g=a) w1 y:=kD t;obtain ⟨a8,o⟩:∃J,(λ_ q=>Bk q a 207 ((tcells c).setIfInBounds b (.int .i64 (d - 1:Nat)))) J y:=D 11 dC;simp only [zqq];clear e D;have M:y.cell? ⟨a,257,none⟩=some (.int .i64 j):=(by refine (o.cell 257).trans ?_;rw [zCe oM,<-l];exact jE c);have Y:=o.frozen 257;have W:(j:Int)+-1=(j - 1:Nat):=oM;have a2:=o.lt;go_wp2_with fail;go_ret;refine ⟨rfl,?_,?_⟩;rw [<-C];exact o.set 257 _;exact ((kF E).trans t).setCell (.inl rfl) _
end
section
open Go.RowKit Go.Shelf
def nN (w:World) (a:List (Nat×Nat)) (d:Ending) (w':World):Prop:=
 ∃b c,d=.returned (.slice b a.length c)/\Made w' w.heap.size 133 2 b a.length c (bU a)/\Below w.heap.size w w'
def jU (f:Nat):∀(d:List Value) (b:Nat) (w:World) (g:TypeId) (c:Array Value),Bk w f g c->∃e:Array Value,Bk (w.setCells f b d) f g e/\e.size=c.size/\∀a,a < c.size->e[a]?=if b<=a/\a < b+d.length then d[a - b]? else c[a]?
 | [],b,w,g,c,i=>⟨c,i,rfl,λa j=>by rw [zBw (by simp)]⟩
 | v::d,b,w,g,c,i=>by
  obtain ⟨e,m,n,o⟩:=jU f d (b+1) (w.setCell ⟨f,b,none⟩ v) g _ (i.set b v);refine ⟨e,m,by rw [n];simp,λa j=>?_⟩;rw [o a (by simpa using j)];by_cases k:b+1<=a/\a < b+1+d.length;rw [zBx k,zBx (by simp;omega),show a - b=(a -(b+1))+1 by omega];rfl
  .rw [zBw k,zCd];by_cases l:b=a;subst l;rw [zBx rfl,zBx j,zBx (by simp),zDK];rfl
   .rw [zBw l,zBw (by simp;omega)]
def mJ (a:Nat):∀(e:List Value) (b:Nat) (w0 w:World),Keep (λc=>c=a) w0 w->Keep (λc=>c=a) w0 (w.setCells a b e)
 | [],_,_,_,d=>d
 | v::e,b,w0,w,d=>mJ a e (b+1) w0 (w.setCell ⟨a,b,none⟩ v) (d.setCell (p:=⟨a,b,none⟩) (.inl rfl) v)
def iO {F:Nat->Prop} (a:Nat):∀(d:List Value) (b:Nat) (w0 w:World),w0.heap.size<=a->Keep F w0 w->Keep F w0 (w.setCells a b d)
 | [],_,_,_,_,c=>c
 | v::d,b,w0,w,hg,c=>iO a d (b+1) w0 (w.setCell ⟨a,b,none⟩ v) hg (c.setCell (p:=⟨a,b,none⟩) (.inr hg) v)
def Bk.shape {w b d a} (c:Bk w b d a):w.shape? b=some (d,a.size):=by
 unfold Bk at c;unfold World.shape?;rw [c]
def iK {c:Array Value} {d:List Value} {b:Nat} (g:d.length=b) (i:b<=c.size) (f:∀a,a < b->c[a]?=d[a]?):c.toList.take b=d:=by
 apply zDs;intro a;by_cases e:a < b;rw [zFI e,zDz];exact f a e
 .rw [List.getElem?_take_eq_none oM,zBg oM]
def wL {w B f c d g j} (k:w.ownsRow B g 1 (.slice (some f) c d) c j) (t:0 < c):∃b:Array Value,Bk w f g b/\b.size=d/\c<=d/\d<=maxLen/\B<=f/\∀e,e < c->b[e]?=j[e]?:=by
 rcases k.2 with ⟨a,s⟩|⟨r,q,b,a,l,m,p,o,u,i⟩
 .cases a
 .injection a with a _ h3;injection a with a;injection a with a _;subst a h3;refine ⟨b,m,by omega,p,o,l,λe n=>?_⟩;rw [zBl] at i;rw [<-i,zFI n,zDz]
def vQ (B:Nat) (e:Value) (a:Nat) (i:List Value) (w:World) (g:Ending) (w':World):Prop:=
 ∃b c,g=.returned (.slice b (a+1) c)/\w'.ownsRow B 3 1 (.slice b (a+1) c) (a+1) i/\Keep (λf=>e.ownBlock=some f) w w'/\((Value.slice b (a+1) c).ownBlock=e.ownBlock∨∃d,(Value.slice b (a+1) c).ownBlock=some d/\w.heap.size<=d)
def aBP {B s c f b d n j w} (E:w.ownsRow B 3 1 (.slice s c f) c (d.map sv)) (z:Bk w n 3 #[sv j]) (a8:∀u,(Value.slice s c f).ownBlock=some u->u≠n) (hB:B<=w.heap.size) (S:b < c) (ae:c<=1000000):
 Calls prog 104 #[.slice s c f,(b:Int),.slice (some n) 1 1] w (vQ B (.slice s c f) c ((aT d b j).map sv) w):=by
 have l:d.length=c:=by have:=E.1;simpa using this
 obtain ⟨g,ag,C,_,ad⟩:=kj E oM;injection C with C _ e3;subst C e3;obtain ⟨L,r,a5,a6,U,Z,O⟩:=wL E oM;have a7:n≠g:=λq=>a8 g rfl q.symm;have R:∀a e,(d.map sv)[a]?=some e->w.cell? ⟨g,0+a,none⟩=some e:=λa e k=>by
  have i:a < c:=by have:=(zAc.1 k).1;simpa [l] using this
  rw [zBi,r.cell,O a i,k]
 have W:∀a e, [sv j][a]?=some e->w.cell? ⟨n,0+a,none⟩=some e:=λa e k=>by
  rw [zBi,z.cell,<-k];rcases a with _ | a;rfl
  .simp at k
 have M:∀e∈d.map sv,e.oneCell'=true:=λe k=>by obtain ⟨ab,_,rfl⟩:=zAy.1 k;rfl
 have N:∀e∈ [sv j],e.oneCell'=true:=λe k=>by rw [zDa] at k;subst k;rfl
 have T:∀a,a < c+1->((aT d b j).map sv)[a]?=if a < b then (d.map sv)[a]? else if a=b then some (sv j) else (d.map sv)[a - 1]?:=λa i=>by rw [qB,jX _ _ (by rw [zBc];omega)]
 have y:((aT d b j).map sv).length=c+1:=by rw [zBc,cM _ _ oM,l]
 by_cases V:c+1<=f
 .have a4:∀a,a < c+1->w.cell? ⟨g,0+a,none⟩=some (L.getD a (.bool false)):=λa i=>by rw [zBi,r.cell,zAq oM];congr 1;rw [zAm,zAq oM];rfl
  have D:=Any2.slices_Insert_int_shift shIns g 0 c f b n 0 1 1 (d.map sv) [sv j] w S dC V (by unfold maxLen at U;omega) a7 (by simpa using l) rfl R (λa i=>by rw [a4 a i];rfl) (λa i=>by rw [zBi];exact r.frozen a) W M N 3 3 1 L.size (z.shape) (r.shape) oM (z.frozen 0) (z.frozen 1);refine D.mono ?_;rintro q w' ⟨rfl,rfl⟩;obtain ⟨Y,G,a9,H⟩:=jU g ((d.map sv).drop b) (0+(b+1)) w.drew _ _ r.drew;obtain ⟨A,J,aa,K⟩:=jU g [sv j] (0+b) _ _ _ G;refine ⟨_,f,rfl,⟨by rw [y,zBl],.inr ⟨g,f,A,rfl,Z,J,V,U,by omega,?_⟩⟩,(mJ g _ _ w _ (mJ g _ _ w _ (ke _ w).drew)).mono λu _ q=>by rw [show u=g from q];rfl,.inl rfl⟩;rw [zBl];refine iK y oM λa i=>?_;rw [T a i,K a oM,H a oM];simp only [zCg,zDM,zAw,zBc,l];by_cases m:a < b
  .rw [zBw oM,zBw oM,zBx m,O a oM]
  .by_cases p:a=b
   .subst p;rw [zBx oM,zBw oM,zBx rfl];simp
   rw [zBw oM,zBx oM,zBw m,zBw p,zBt];congr 1;omega
 .have D:=Any2.slices_Insert_int_grow shIns g 0 c f b n 0 1 1 (d.map sv) [sv j] w S dC a6 oM oM (by simpa using l) rfl R W M N;refine D.mono ?_;rintro q w' ⟨rfl,rfl⟩;obtain ⟨o,x⟩:=eqx (grownCap w (c+1) f 3);have a1:c+1<=o:=(by rw [<-x];exact grownCap_ge _ _ _ _);have a2:o<=maxLen:=(by rw [<-x];exact grownCap_le_maxLen _ _ _ _ zx);show vQ _ _ _ _ _ (.returned (.slice _ _ (grownCap w (c+1) f 3))) _;rw [x];have X:∀I,(Builtin.zeroCells (Value.int .i64 0).cells I).size=I:=λI=>by simp [Builtin.zeroCells,Value.cells]
  obtain ⟨t,v⟩:=eqx (((d.map sv).take b).toArray++Builtin.zeroCells (Value.int .i64 0).cells (c+1 - b)++Builtin.zeroCells (Value.int .i64 0).cells (o -(c+1)));have ac:t.size=o:=(by rw [<-v,Array.size_append,Array.size_append,X,X];simp [l];omega);have a0:∀a,a < b->t[a]?=(d.map sv)[a]?:=λa i=>by have af:(((d.map sv).take b).toArray).size=b:=(by simp [l];omega);rw [<-v,Array.append_assoc,Array.getElem?_append_left oM,zCy,zFI i]
  have a3:Bk (w.alloc (.cells t 3)) w.heap.size 3 t:=kd _ _ _;have a5:=v;show vQ _ _ _ _ _ _ ((((w.alloc (.cells (((d.map sv).take b).toArray++Builtin.zeroCells (Value.int .i64 0).cells (c+1 - b)++Builtin.zeroCells (Value.int .i64 0).cells (grownCap w (c+1) f 3 -(c+1))) 3)).drew.setCells w.heap.size b [sv j]).drew).setCells w.heap.size (b+1) ((d.map sv).drop b));rw [x,v];obtain ⟨Y,G,a9,H⟩:=jU w.heap.size [sv j] b _ _ _ a3.drew;obtain ⟨A,J,aa,K⟩:=jU w.heap.size ((d.map sv).drop b) (b+1) _ _ _ G.drew;refine ⟨_,o,rfl,⟨by rw [y,zBl],.inr ⟨w.heap.size,o,A,rfl,hB,J,a1,a2,by omega,?_⟩⟩,iO _ _ _ w _ nL (iO _ _ _ w _ nL ((ke _ w).alloc _).drew).drew,.inr ⟨_,rfl,zAs _⟩⟩;rw [zBl];refine iK y oM λa i=>?_;rw [T a i,K a oM,H a oM];simp only [zCg,zDM,zAw,zBc,l];by_cases m:a < b
  .rw [zBw oM,zBw oM,zBx m,a0 a m]
  .by_cases p:a=b
   .subst p;rw [zBw oM,zBx oM,zBw m,zBx rfl];simp
   rw [zBx oM,zBw m,zBw p,zBt];congr 1;omega
def aBQ {B A n c i ks gx k w} (f:w.ownsRow B 3 1 (.slice A n c) n (ks.map sv)) (g:Bk w gx 3 #[sv k]) (x:∀d,(Value.slice A n c).ownBlock=some d->d≠gx) (hB:B<=w.heap.size) (y:i<=n) (l:n<=1000000):
 Calls prog 104 #[.slice A n c,(i:Int),.slice (some gx) 1 1] w (vQ B (.slice A n c) n ((aT ks i k).map sv) w):=by
 by_cases s:i < n;exact aBP f g x hB s l
 .obtain rfl:i=n:=oM;have z:ks.length=i:=(by have:=f.1;simpa using this);have v:Rd w w.heap.size 1 (some ⟨gx,0,none⟩) 1 [sv k]:=by
   refine ⟨rfl,λ_=>⟨gx,0,rfl,g.lt,λo C e=>?_⟩⟩;rcases o with _ | o;injection e with e;subst e;exact (g.cell 0).trans rfl
   .simp at e
  refine (sW 1 f v hB l).mono ?_;rintro j w' ⟨D,rfl,m,a,b⟩;have r:(aT ks i k).map sv=ks.map sv++ [sv k]:=(by unfold aT;rw [zAg oM,zEE oM,zAz];rfl);obtain ⟨p,q,rfl,_⟩:=aZ m;refine ⟨p,q,rfl,by rw [r];exact m,⟨a.os,a.tape,a.output,a.size,λd t u=>a.block d t λj=>u j.symm⟩,?_⟩;rcases b with b | b;exact .inl b;exact .inr ⟨_,b,zAs _⟩
end
section
open Go.RowKit Go.Shelf
open Go.Sort (Holds PermIn SortedIn SWO heap_grow_old)
def aKn {w e base a c f k} {os:Array Obj} {d} {b:Array (Fin (e+1))} (i:b.size=f) (g:Bk w a 3 d) (p:base<=a) (l:f<=c) (m:c<=maxLen) (n:d.size=c):
 (sortWorld (fS e) w a 0 k b os).ownsRow base 3 1 (.slice (some a) f c) f ((b.toList.map λu=>u.val).map sv):=by
 have q:=g.lt;have r:(sortWorld (fS e) w a 0 k b os).heap[a]?=some (.cells (Go.Sort.putCells (fS e) 0 b d) 3 (0,0)):=by unfold sortWorld;rw [heap_grow_old _ _ (by show a < (w.heap.modify a _).size;simpa using q)];have o:w.heap[a]?=some (.cells d 3 (0,0)):=g;simp [Go.Sort.putRow,Go.Sort.mapBlock,Go.Sort.ahead,zFZ,o,Go.Sort.onCells]
 refine ⟨by simp [i],.inr ⟨a,c,_,rfl,p,r,l,m,by simp [Go.Sort.putCells,n],?_⟩⟩;rw [zBl];refine iK (by simp [i]) (by simp [Go.Sort.putCells];omega) λj v=>?_;have s:j < d.size:=oM;have t:j < b.size:=oM;simp [Go.Sort.putCells,Array.getElem?_mapIdx,s,t,fS,sv,aES]
def aIR {c a} (d:∀b∈a,b < c+1):(gN c a).toList.map (λf=>f.val)=a:=by
 unfold gN;rw [zCh]
 conv=>rhs;rw [<-List.map_id a]
 exact zFb λb e=>zBu (d b e)
def cfK (b:Nat) (a:Nat->Nat) (c d:Fin (b+1)):Int:=Lib.compareInt ((a c.val:Nat):Int) ((a d.val:Nat):Int)
def aC7 (b a) (c d:Fin (b+1)):ltOf (cfK b a) c d=decide (a c.val < a d.val):=by
 unfold ltOf cfK;rw [decide_eq_decide,zL];omega
def aMx (a:Nat) (b:Nat->Nat):SWO (ltOf (cfK a b)) where
 irrefl x:=by rw [aC7];simp
 trans x y z h1 h2:=by
  rw [aC7,zCa] at*
  omega
 ntrans x y z h1 h2:=by
  rw [aC7,decide_eq_false_iff_not] at*
  omega
def aEo {g c f} {b:Array (Fin (g+1))} (v:∀E∈c,E < g+1) (q:PermIn 0 (gN g c).size (gN g c) b) (D:SortedIn (ltOf (cfK g f)) 0 (gN g c).size b) (A:c.Nodup) (y:∀a∈c,∀r∈c,f a=f r->a=r):
 (b.toList.map λa=>a.val).Perm c/\(b.toList.map λa=>a.val).Pairwise (λs t=>f s < f t):=by
 have i:(b.toList.map λa=>a.val).Perm c:=by have:=(aAi q).map (λa:Fin (g+1)=>a.val);rwa [aIR v] at this
 refine ⟨i,?_⟩;have C:(b.toList.map λa=>a.val).Nodup:=i.nodup_iff.2 A;rw [zAr];intro d e j k n;have z:d < b.size:=by simpa using j
 have o:e < b.size:=by simpa using k
 have x:=D d e (zAp _) n (by rw [<-q.1];exact o);rw [aC7,decide_eq_false_iff_not,aES _ _ z,aES _ _ o] at x;have l:(b.toList.map λa=>a.val)[d]=b[d].val:=zs
 have m:(b.toList.map λa=>a.val)[e]=b[e].val:=zs
 have p:(b.toList.map λa=>a.val)[d]≠(b.toList.map λa=>a.val)[e]:=zAr.1 C d e j k n;have G:b[d].val∈c:=i.subset (by rw [<-l];exact zBj j);have H:b[e].val∈c:=i.subset (by rw [<-m];exact zBj k);rw [l,m] at p⊢;have I:f b[d].val≠f b[e].val:=λu=>p (y _ G _ H u);omega
end
section
open Go.RowKit
@[irreducible] def cntL (L:List Nat):List Value:=(List.range 257).map λs=>.int .i64 ((L.count s:Nat):Int)
def aDl (b) {a} (c:a < 257):(cntL b)[a]?=some (.int .i64 (b.count a:Nat)):=by
 unfold cntL;rw [zAf,zCk c];rfl
def aE2 (a):(cntL a).length=257:=by unfold cntL;simp
def aLn {w b a} (f:Bk w b 207 (tcells a)):(loadCells ⟨b,0,none⟩ 257).run prog w=.ok (cntL a).toArray w:=by
 have:=run_loadCells_list (P:=prog) w ⟨b,0,none⟩ (cntL a) (λc i e=>by
  have g:(⟨b,0,none⟩:Addr).add c=⟨b,c,none⟩:=by unfold Addr.add;split <;> simp_all
  have d:c < 257:=by rw [<-aE2 a];exact (zAc.1 e).1
  rw [g,f.cell c,eH a d,<-aDl a d,e])
 rw [aE2] at this;exact this
def aBv {i:Oper} {b:Act} {w:World} {j:Act->World->Prop} {Q:Exit->Act->World->Prop} (a:TypeId) (l:Operand) (p:i.op=.load a l)
 (c:Addr) (t:b.eval l=.pointer (some c)) (d:Array Value) (g:Nat) (e:TypeDesc)
 (r:prog.underlying a=some e) (v:(match e with | .struct _ | .array _ _=>true | _=>false)=true) (k:(prog.info? a).map (·.size)=some g)
 (o:(loadCells c g).run prog w=.ok d w) (m:j (b.put i.dst (.agg d)) w):i.wp prog b w j Q:=by
 have s:(loadVar a c).run prog w=.ok (.agg d) w:=by
  cases f:prog.info? a with
  | none=>simp [f] at k
  | some u=>
   have q:u.size=g:=(by simpa [f] using k);have n:(isAgg a).run prog w=.ok true w:=(by unfold isAgg;rw [zFW,run_underlying r w];cases e <;> simp_all);simp [loadVar,zFW,n,sizeOf,typeInfo,f,q,o]
 unfold Oper.wp execOp;simp only [p,t,Instr.loadAt,Instr.sureAddr,zFW,Sem.run_pure,Result.andThen_ok,s];exact m
def aOm (b) (a:Nat) (c:a < 257) (w):(Instr.index 205 (.agg (cntL b).toArray) (.int .i64 a)).run prog w=.ok (.int .i64 (b.count a:Nat)) w:=by
 have j:(cntL b).toArray[a]?=some (.int .i64 (b.count a:Nat)):=by rw [zCy];exact aDl b c
 have d:(0:Int)<=a/\(a:Int) < (257:Nat):=oM;have g:=underlying205;have i:=underlying3;have f:=aDl b c;have e:(isAgg 3).run prog w=.ok false w:=by unfold isAgg;rw [zFW,run_underlying i w];rfl
 simp [Instr.index,asIntOf,zFW,run_underlying g w,d,Tryz.sizeOf3,c,part,e,f]
def aA1 {u b} (c) {d w} (m:Bk w u 207 (tcells b)) (X:d < 257) (j:b.countP (λa=>decide (a < d))<=c) (g:c < b.countP (λa=>decide (a < d))+b.count d) (W:b.length<=1000):
 Calls prog 129 #[u,(c:Int)] w λH w'=>H=.returned (.int .i64 d)/\Below w.heap.size w w':=by
 have D:=aLn m;have S:=m;clear m;have U:decide ((c:Int) < 0)=false:=zs
 go_enter func129,ntmps129;go_wp2_with fail;refine aBv 205 (.tmp 15) rfl ⟨u,0,none⟩ rfl (cntL b).toArray 257 _ underlying205 rfl kR D ?_;have v:=λa=>yB b a;have M:∀a,a < d->b.countP (λe=>decide (e < a))+b.count a<=b.countP (λe=>decide (e < d)):=λa O=>by rw [<-v a];exact List.countP_mono_left λe _ m=>by simp at m⊢;omega
 have G:=j;have z:=g;clear j g D;have V:c<=1000:=by
  have g:=z;have n:b.countP (λa=>decide (a < d))+b.count d<=b.length:=by rw [<-v d];exact zBh
  omega
 simp only [Act.put,zFu,List.set_cons_zero,List.set_cons_succ];go_wp2_with fail;go_loopw [1,17] (λi y wr=>∃a:Nat,a<=d/\y=.int .i64 a/\i=.int .i64 (c - b.countP (λe=>decide (e < a)):Nat)/\wr=w) (λ_ y _=>257 -(intOf y).toNat)
 case atStart=>exact ⟨0,by omega,rfl,by simp,rfl⟩
 case round=>
  obtain ⟨a,O,rfl,rfl,rfl⟩:=hrel;have N:=aOm b a oM;have j:=G;have g:=z;have n:=v a;have k:=M a;obtain ⟨f,s⟩:∃f,b.countP (λe=>decide (e < d))=f:=⟨_,rfl⟩;obtain ⟨i,l⟩:∃f,b.countP (λe=>decide (e < a))=f:=⟨_,rfl⟩;obtain ⟨E,x⟩:∃f,b.countP (λe=>decide (e < a+1))=f:=⟨_,rfl⟩;obtain ⟨q,o⟩:=eqx (b.count a);rw [s] at j g k;rw [l] at n k;rw [x,o] at n;rw [o] at k N;by_cases R:a < d
  .have L:=k R;have r:¬c - i < q:=oM;have I:=zBy r;have A:IntKind.i64.wrap ((c - i:Nat) -q)=((c - E:Nat):Int):=zu;have J:a < 257:=oM;have K:(a:Int) < 257:=oM;rw [l];obtain ⟨t,p⟩:=eqx (c - i);obtain ⟨T,C⟩:∃t,c - E=t:=⟨_,rfl⟩;rw [p] at r I A⊢;rw [C] at A;clear j g n k L s l o p;go_wp2_with fail;go_roundw
   case rel=>exact ⟨a+1,by omega,by go_num,by rw [x,C],by first | rfl | trivial⟩
   case measure=>exact zr
  .obtain rfl:a=d:=oM;rw [l];obtain rfl:f=i:=(by rw [<-s,<-l]);rw [o] at g;have r:c - f < q:=oM;have J:a < 257:=oM;have K:(a:Int) < 257:=oM;obtain ⟨t,p⟩:=eqx (c - f);rw [p] at r⊢;clear j g n k s l x o p;go_wp2_with fail;go_ret;exact ⟨rfl,kg _ _⟩
end
section
open Go.RowKit Go.Shelf
def aBU {B A n c i ks w} (r:w.ownsRow B 3 1 (.slice A n c) n (ks.map sv)) (W:i < n) (X:n<=1000000):
 Calls prog 224 #[.slice A n c,(i:Int),.int .i64 (i+1:Nat)] w λk w'=>k=.returned (.slice A (n - 1) c)/\w'.ownsRow B 3 1 (.slice A (n - 1) c) (n - 1) ((aK ks i).map sv)/\Keep (λm=>(Value.slice A n c).ownBlock=some m) w w':=by
 have z:ks.length=n:=by have:=r.1;simpa using this
 obtain ⟨d,a0,o,_,V⟩:=kj r oM;injection o with o _ e3;subst o e3;obtain ⟨E,u,S,Y,C,G,J⟩:=wL r oM;obtain ⟨b,t⟩:∃b:List Int,ks.map (λR=>((R:Nat):Int))=b:=⟨_,rfl⟩;have s:b.length=n:=by rw [<-t,zBc,z]
 have O:ks.map sv=b.map (Value.int .i64):=by rw [<-t,zCh];rfl
 have H:Sort.Holds (Value.int .i64) w d 0 b.toArray:=holds_of_blockI u (by
  refine iK zs oM λa q=>?_;rw [J a oM,O])
 have p:=Any.slices_Delete_int shDel d 0 c i (i+1) b w H oM (by unfold maxLen at C;omega) oM oM;rw [s] at p;have U:(aK ks i).length+1=n:=by rw [cJ oM,z]
 have T:(aK b i).length+1=n:=by rw [cJ oM,s]
 obtain ⟨j,l⟩:=eqx (b.take i++b.drop (i+1)++List.replicate (i+1 - i) 0);have Z:j.length=n:=by rw [<-l];simp [s];omega
 have M:∀a,a < n - 1->j[a]?=(aK b i)[a]?:=λa q=>by rw [<-l];show ((aK b i)++List.replicate (i+1 - i) 0)[a]?=_;rw [zAn oM]
 rw [l] at p;clear l;refine p.mono ?_;rintro k w' ⟨rfl,D,rfl⟩;have e:=grownBy_sortedI (w:=w) (g:=d) (n:=D) (os:=#[]) j.toArray;have v:=heap_sortedI (w:=w) (g:=d) (n:=D) (os:=#[]) j.toArray u;rw [Go.Sort.grow_empty] at e v;refine ⟨by rw [show i+1 - i=1 by omega],⟨by rw [zBc,zBl];omega,.inr ⟨d,c,_,rfl,G,v,by omega,C,by simp [Go.Sort.putCells];omega,?_⟩⟩,⟨e.os,e.tape,e.output,e.size,λm I L=>e.block m I λk=>L k.symm⟩⟩;rw [zBl];refine iK (by rw [zBc];omega) (by simp [Go.Sort.putCells];omega) λa q=>?_;have x:a < (aK ks i).length:=oM;have N:(aK b i)[a]?=some (((aK ks i)[a]:Nat):Int):=by rw [<-t,<-uY,zAf,zAa x];rfl
 rw [zAf,zAa x];have f:=M a q;rw [N] at f;have K:a < E.size:=oM;have y:a < j.length:=oM;rw [zAa y] at f;injection f with f;simp [Go.Sort.putCells,Array.getElem?_mapIdx,K,y,f,sv]
end
end Go.Proofs.YtknjfpcdhdmghaaGreatDoor
