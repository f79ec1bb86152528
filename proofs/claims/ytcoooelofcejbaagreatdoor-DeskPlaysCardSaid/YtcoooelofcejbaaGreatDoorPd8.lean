/- Lemmas of the walk. Conditions: each its own. -/
import Derived.Test.YtcoooelofcejbaaGreatDoorPd4
import Derived.Test.YtcoooelofcejbaaGreatDoorPd5
import Derived.Test.YtcoooelofcejbaaGreatDoorProg
import Derived.Test.YtcoooelofcejbaaGreatDoorShl
import Derived.Test.YtcoooelofcejbaaGreatDoorSht
import Derived.Test.YtcoooelofcejbaaGreatDoorRows
set_option linter.all false
set_option maxRecDepth 100000
set_option maxHeartbeats 2000000
open Go.Proofs.Tryz
namespace Go.Proofs.YtcoooelofcejbaaGreatDoor
open Go.RowKit
def pA {ga:Nat} {A:Option Addr} {c:Nat} {Af:Option Addr} {cf N M:Nat} {w:World} (a:Bk w ga 154 #[.slice A N c,.slice Af M cf,.int .i64 268435456]) (j:N<=1048576) (i:M<=N):
 Calls prog 114 #[ga] w fun b d=>b=.returned (.int .i64 ((N - M:Nat):Int))/\Below w.heap.size w d:=by
 have e:w.cell? ga=some (.slice A N c):=(a.cell 0).trans rfl;have f:w.cell? ⟨ga,1,none⟩=some (.slice Af M cf):=(a.cell 1).trans rfl;have g:IntKind.i64.wrap ((N:Int) -(M:Int))=((N - M:Nat):Int):=by rw [IntKind.wrap_i64];omega
 clear a;go_enter func114,ntmps114;go_wp2;go_quiet (fail);go_wp2;go_ret;exact ⟨eS oM,below_drewN bR _⟩
def rS (o a:Nat) {A:Option Addr} {c:Nat} (j:Option Addr) (k:Nat) {N:Nat} (Q:List Bool) (d:World) (q:Bk d a 154 #[.slice A N c,.slice j 0 k,.int .i64 268435456]) (y:d.ownsRow o 4 1 (.slice A N c) N (Q.map Value.bool)) (al:o<=d.heap.size) (am:N<=1000000):
 Calls prog 69 #[a] d fun I t=>I=.returned (.tuple #[(N:Int),.int .i64 0])/\Keep (fun e=>e=a∨(Value.slice A N c).ownBlock=some e) d t/\∃s,Bk t a 154 #[s,.slice j 0 k,.int .i64 268435456]/\t.ownsRow o 4 1 s (N+1) ((Q++ [true]).map Value.bool)/\(s.ownBlock=(Value.slice A N c).ownBlock∨∃J,s.ownBlock=some J/\d.heap.size<=J):=by
 obtain ⟨ad,a3,aa,ab,ac⟩:=info_parts tH;have an:=q.lt;obtain ⟨i,W,U⟩:=hqq3 q y (aS y q dC);clear q y;go_enter func69,ntmps69;go_wp2;refine wp_region_any kR ?_;refine aY (S:=(Grow)) (V:=(Vs [is a,is (N:Int),is a,is a,is (.pointer (some ⟨a,2,none⟩)),is (.int .i64 268435456),is (.bool false),is (.bool false)])) [10,11,12,13,14,15,16,9] _ rfl kR bR (fun _ _=>Grow.trans) (cK tA0) ?_ ?_
 · refine aV ?_;refine pH 0 (.pointer (some a)) ?_;refine sC (fun _ f b _ _ _ g _ _ _ v=>?_) ?_
   · have ah:_=_:=g 0 10 kR rfl;replace b:(Grow) d f:=gD b;go_simp;refine (pA (ga:=a) (A:=A) (c:=c) (Af:=j) (cf:=k) (N:=N) (M:=0) (w:=f) (i.out.below b i.out.lt) oM oM).mono ?_;rintro I au ⟨rfl,a2⟩;exact v _ _ a2 rfl
   refine pH 0 (.pointer (some a)) ?_;refine pV 2 12 ?_;refine pV 3 13 ?_;refine pL 4 14 (fun f b=>have b:(Grow) d f:=gD b;(((i.out.below b i.out.lt).cell 2).trans rfl:f.cell? ⟨a,2,none⟩=some (.int .i64 268435456))) ?_;refine sC (fun _ _ _ _ _ _ g _ _ _ v=>?_) ?_
   · have ai:_=_:=g 1 11 kR rfl;have aj:_=_:=g 5 15 kR rfl;have ao:((N:Int)==268435456)=false:=(by simp;omega);go_simp;exact v _ _ bR (by first | rfl | simp [is] |(simp [is];omega))
   refine pV 6 16 ?_;exact aH
 · intro a0 n b g;replace b:(Grow) d n:=gD b;have Z:a0 (.tmp 9)=.bool false:=g 7 9 rfl;simp only [zqq];rw [Z];clear g;have m:=i.out.below b i.out.lt;have a9:=Below.size b;have P:=aM W.out b;have Y:n.cell? ⟨a,1,none⟩=some (.slice j 0 k):=(m.cell 1).trans rfl;have G:n.cell? a=some (.slice A N c):=(m.cell 0).trans rfl;have a1:=m.frozen 0;have O:a < n.heap.size:=oM;obtain ⟨u,C,E⟩:=hqq3 b m P;clear b m P;generalize n=W2 at C a9 G Y a1 u O E⊢;have ae:=(World.cell?_alloc_lt W2 (Obj.cells #[.bool true] 4) ⟨a,0,none⟩ O).trans G;go_wp2_with (at_builtin;refine bP _ rfl (.tmp 53) (.tmp 54) _ rfl o 4 ad (.bool false) 1 1 underlying152 a3 aa ab ac rfl dC (.slice A N c) N _ rfl E.out rfl rfl (by simp [Value.oneCell']) (by unfold maxLen;omega) oM oM ?_;intro ar f z x ap K;have r:=C.out.grown x U.out;obtain ⟨X,T,R,D⟩:=hqq4 z x K r;have ag:f.cell? a=some (.slice A N c):=(r.cell 0).trans rfl;have ak:=r.frozen 0;obtain ⟨B,H,rfl,a7⟩:=aR z;clear z x K r a7);go_ret2;have a8:=Keep.setCell (F:=fun e=>e=a∨(Value.slice A N c).ownBlock=some e) (Keep.refl _ f) (p:=a) (.inl (.inl rfl)) (.slice B (N+1) H);have a5:Keep (fun e=>e=a∨(Value.slice A N c).ownBlock=some e) d W2:=Keep.of_below u.out;have a6:=a5.grown T.out (fun aq a4=>.inl (.inr a4));refine ⟨rfl,a6.trans' a8 (fun e _ l=>l),_,D.out.set 0 _,?_,?_⟩;have:=aA (w':=f.setCell a (.slice B (N+1) H)) X.out fun e af _ L=>L.far (Bk.ne L D.out dC) _;simpa using this;rcases R.out with l | l;exact .inl l;exact .inr ⟨_,l,by have:=u.out.size;omega⟩
def oZ {B:Nat} {A:Option Addr} {n c:Nat} {xs:List Value} {Av:Option Addr} (b:Nat) {k:Nat} {w:World} (d:w.ownsRow B 3 1 (.slice A n c) n xs) (e:Rd w w.heap.size 1 Av 1 [sv k]) (l:B<=w.heap.size) (x:n<=1000000):
 Calls prog 70 #[.slice A n c,(n:Int),.slice Av 1 b] w fun j f=>∃a,j=.returned a/\f.ownsRow B 3 1 a (n+1) (xs++ [sv k])/\w.grownBy f (Value.slice A n c).ownBlock/\(a.ownBlock=(Value.slice A n c).ownBlock∨a.ownBlock=some w.heap.size):=by
 obtain ⟨u,p,r,s,t⟩:=info_parts iD;have y:=vM (P:=prog) 48 3 1 underlying48 Tryz.sizeOf3 A n c n nL;obtain ⟨g,i⟩:=hqq2 d e;clear d e;go_enter func70,ntmps70;go_wp2_with (at_builtin;refine bK _ rfl (.tmp 23) (.tmp 24) _ rfl B 3 u (.int .i64 0) 1 8 underlying48 p r s t rfl dC (.slice A n c) n _ rfl g.out w.heap.size Av 1 b _ rfl i.out (by simp [Value.oneCell',sv]) (by unfold maxLen;omega) oM l ?_;intro v z q o m);go_ret;exact ⟨v,rfl,q,o,m⟩
def TabW (a:World):Prop:=TabAt 7 Lib.deBruijn64tab a
def TabW.below {B:Nat} {b c:World} (d:TabW b) (g:Below B b c) (e:7 < B):TabW c:=fun a f=>(g.cell (p:=⟨7,a,none⟩) e).trans (d a f)
def TabW.pos {a:World} (c:TabW a):7 < a.heap.size:=by
 have d:=c 0 dC;rcases zBe 7 a.heap.size with b | b;exact b
 · exfalso;have:a.heap[7]?=none:=Array.getElem?_eq_none b;simp [World.cell?,this] at d
def aKF {b c:Nat} (g:b < 18446744073709551616) (f:Lib.ctz 64 b=c) {a:World} (e:TabW a):
 Calls prog 255 #[.int .u64 (b:Int)] a fun d i=>d=.returned (.int .i64 (c:Int))/\i=a:=by
 have:=Any7.bits_TrailingZeros64 shTz b g a (fun _=>e);rw [f] at this;exact this
def gN {a s c:Nat} (r:a < 18446744073709551616) (p:a.testBit s=true) (o:aX a s=c) (B:c < aX a 64) {d:World} (g:TabW d) (N:7 < d.heap.size):
 Calls prog 289 #[.int .u64 (a:Int),(c:Int)] d fun m Q=>m=.returned (.int .i64 (s:Int))/\Below d.heap.size d Q:=by
 have A:=aJJ (x:=a) r p o;have q:=fun e M=>aFk (x:=a) r p (i:=e) M;rw [o] at q;have C:=aEl a;have L:=oB a 64;obtain ⟨I,J,u,R,H⟩:=hqq5 A q C B g;clear A q C p o g;have U:decide ((c:Int) < 0)=false:=by simp
 go_enter func289,ntmps289;go_wp2_with fail;refine (gU _ 1 1 _ [a] _ (Rd.made _ _ 1 1 _ rfl) (by simpa using r) oM).mono ?_;rintro m v ⟨rfl,n⟩;have y:Below d.heap.size d v:=by first |(rw [n];exact bR.alloc nL _)|(rw [<-n];exact bR.alloc nL _)
 have E:(([a].map fun a=>aX a 64).sum)=aX a 64:=by simp
 rw [E];obtain ⟨O,D⟩:=eqx (aX a 64);rw [D] at B L⊢;have V:decide ((c:Int)>=(O:Int))=false:=by simp;omega
 clear E D;have t:=lhd y;clear n y;go_wp2_with fail;go_loopw [0,15] (fun P e wr=>∃b:Nat,b<=c/\e=.int .i64 (b:Int)/\P=.int .u64 ((clr a b:Nat):Int)/\wr=v) (fun _ e _=>c -(intOf e).toNat)
 case atStart=>exact ⟨0,zAp _,rfl,rfl,rfl⟩
 case round=>
  obtain ⟨b,X,rfl,rfl,rfl⟩:=hrel;by_cases W:b < c
  · have w:=J.out b oM;have j:=u.out b;have k:clr a (b+1)=clr a b&&&(clr a b - 1):=rfl;obtain ⟨l,f⟩:=eqx (clr a b);rw [f] at w j k⊢;obtain ⟨G,F⟩:=eqx (l - 1);rw [F] at k;have S:IntKind.u64.wrap ((l:Int) - 1)=(G:Int):=(by rw [IntKind.wrap_u64];omega);have T:=aCK l G oM oM;have K:=lhd k;clear f F k w j;go_wp2_with fail;go_roundw
    case rel=>exact ⟨b+1,by omega,by go_num,by rw [K.out],by first | rfl | trivial⟩
    case measure=>simp [intOf];omega
  · obtain rfl:b=c:=oM;have j:=u.out b;have z:=I.out;obtain ⟨l,f⟩:=eqx (clr a b);rw [f] at j z⊢;have g:=H.out.below t.out N;clear f;go_wp2_with fail;refine (aKF oM z g).mono ?_;rintro m Y ⟨rfl,rfl⟩;go_wp2_with fail;go_ret;exact ⟨rfl,t.out⟩
def aIY {a:Nat} (c:a < 18446744073709551616):18446744073709551615 ^^^ a=18446744073709551615 - a:=by
 have e:18446744073709551615=2 ^ 64 - 1:=dC;have f:18446744073709551615 - a=2 ^ 64 -(a+1):=oM;rw [f,e];apply Nat.eq_of_testBit_eq;intro b;rw [Nat.testBit_xor,Nat.testBit_two_pow_sub_one,Nat.testBit_two_pow_sub_succ c];by_cases d:b < 64
 · simp [d]
 · have:a.testBit b=false:=Nat.testBit_lt_two_pow (zAl (show a < 2 ^ 64 from c) (zBp dC (show 64<=b by omega)));simp [d,this]
def aJW {a:Nat} (b:a < 18446744073709551616):bits .xor .u64 IntKind.u64.max (a:Int)=((eT a false:Nat):Int):=by
 have c:IntKind.u64.max=((18446744073709551615:Nat):Int):=dC;rw [c,bits_xor_u64_nat _ _ oM b];congr 1;unfold eT;simp only [Bool.false_eq_true,if_false];exact aIY b
def uL {k:Nat} {r:List Bool} {m:Bool} {a j:Nat} {e:World} (V:Bk e k 297 (gP r)) (S:r.length<=128) (af:r[a]?=some m) (ae:(r.take a).count m=j) (am:TabW e):
 Calls prog 270 #[k,(j:Int),.bool m] e fun v aQ=>v=.returned (.int .i64 (a:Int))/\Below e.heap.size e aQ:=by
 have au:=(zAc.1 af).1;have z:7 < e.heap.size:=am.pos;have X:=aBP m (mO r);have Y:=aBP m (mJ S);have aE:=mO r;have aF:=mJ S;have n:=V.cell 0;have N:=V.cell 1;have O:=V.cell 2;have aS:decide ((j:Int) < 0)=false:=by simp
 have aO:a < r.length:=au;have ag:∀a0:Nat,(([a0].map fun a0=>aX a0 64).sum)=aX a0 64:=fun a0=>by simp
 obtain ⟨a1,P⟩:=eqx (eT (w0 r) m);obtain ⟨M,Q⟩:=eqx (eT (w1 r) m);unfold gP at n N O;obtain ⟨ah,aa⟩:=eqx (w0 r);obtain ⟨ai,ab⟩:=eqx (w1 r);obtain ⟨aL,ac⟩:=eqx r.length;have aH:=ix0 (ah:Int) (ai:Int);have aI:=ix1 (ah:Int) (ai:Int);rw [P] at X;rw [Q] at Y;rw [aa] at aE P;rw [ab] at aF Q;rw [ac,aa,ab] at n N O;rw [ac] at aO;have a3:=lhd am;replace n:e.cell? k=some (.int .i64 (aL:Int)):=n.trans rfl;have q:=V.lt;obtain ⟨y,a2⟩:=hqq2 n S;have aC:j<=a:=by rw [<-ae];exact zAk zBv (by rw [zAj];omega)
 have aw:=lhd aC;clear aC;have ap:=fun w=>aKa (b:=m) S af ae w;have ad:=fun w=>aKb (b:=m) S af ae w;rw [aa,P] at ap ad;rw [ab,Q] at ad;obtain ⟨u,aq⟩:=eqx (aX a1 64);obtain ⟨av,ar⟩:=eqx (aX M 64);obtain ⟨A,ao⟩:=eqx (j - u);have aB:64<=a->u<=j/\M.testBit (a - 64)=true/\aX M (a - 64)=A/\A < av:=fun w=>by obtain ⟨aU,aT,az,aN,R,T,al,aA⟩:=ad w;rw [aq] at az;rw [ar] at aA;subst az;rw [ao] at R;subst R;exact ⟨aN,T,al,aA⟩
 have aG:m=false->bits .xor .u64 IntKind.u64.max (ah:Int)=(a1:Int)/\bits .xor .u64 IntKind.u64.max (ai:Int)=(M:Int):=fun an=>by rw [<-P,<-Q,an];exact ⟨aJW aE,aJW aF⟩
 have aD:m=true->a1=ah/\M=ai:=fun an=>by rw [<-P,<-Q,an];simp [eT]
 obtain ⟨ay,a4,a5,a6,ax,aR,a7⟩:=hqq7 ap aB aq ar ao ac au;clear ap ad aB aq ar ao ac af ae V S am P Q aa ab au;obtain ⟨a9,a8⟩:=hqq2 aG aD;clear aG aD;cases m with
 | true=>
   replace a8:=a8.out rfl;clear a9;go_enter func270,ntmps270;go_wp2_with fail;go_loopw [1,21] (fun Z K wr=>∃x:Nat,K=.int .i64 (x:Int)/\((x=0/\Z=.int .i64 (j:Int))∨(x=1/\64<=a/\Z=.int .i64 (A:Int)))/\Below e.heap.size e wr) (fun _ K _=>2 -(intOf K).toNat)
   case atStart=>exact ⟨0,rfl,.inl ⟨rfl,rfl⟩,Below.refl _ _⟩
   case round=>
    obtain ⟨x,rfl,(⟨rfl,rfl⟩|⟨rfl,U,rfl⟩),f⟩:=hrel
    all_goals
        obtain ⟨aJ,aK⟩:=a8;subst aJ;subst aK
    · clear N O aI;have t:=f.size;have F:=(f.cell (p:=k) q).trans n;clear n;go_wp2_with fail;refine (gU _ 1 1 _ [a1] _ (Rd.made _ _ 1 1 _ rfl) (by simpa using X) oM).mono ?_;rintro v E ⟨rfl,l⟩;have c:Below e.heap.size e E:=(by first |(rw [l];exact f.alloc t _)|(rw [<-l];exact f.alloc t _));rw [ag,a5.out];have G:=(c.cell (p:=k) q).trans y.out;clear l F;by_cases w:a < 64
      · obtain ⟨g,i,d⟩:=ay.out w;have o:=d;rw [a5.out] at o;have I:j < u:=o;have H:IntKind.i64.wrap (a:Int)=(a:Int):=(by rw [IntKind.wrap_i64];omega);obtain ⟨B,C,D⟩:=hqq3 g i d;clear g i d o;go_wp2_with fail;refine (gN X B.out C.out D.out (a3.out.below c z) (zAl z c.size)).mono ?_;rintro v aj ⟨rfl,J⟩;have s:=c.trans (J.mono c.size);have ak:=(s.cell (p:=k) q).trans y.out;clear G;go_wp2_with fail;go_ret;exact ⟨rfl,s⟩
      · obtain ⟨L,g,i,d⟩:=a4.out oM;have I:¬j < u:=oM;have aM:decide (j < u)=false:=zBy I;have H:IntKind.i64.wrap ((j:Int) -(u:Int))=(A:Int):=(by have:=ax.out;have R:=a2.out;have T:=aw.out;have al:=a7.out;rw [IntKind.wrap_i64];omega);clear L g i d;go_wp2_with fail;go_roundw
        case rel=>exact ⟨1,by go_num,.inr ⟨by first | rfl | trivial,by omega,by go_num⟩,c⟩
        case measure=>simp [intOf]
    · clear N O aH;have t:=f.size;have F:=(f.cell (p:=k) q).trans n;clear n;go_wp2_with fail;refine (gU _ 1 1 _ [M] _ (Rd.made _ _ 1 1 _ rfl) (by simpa using Y) oM).mono ?_;rintro v E ⟨rfl,l⟩;have c:Below e.heap.size e E:=(by first |(rw [l];exact f.alloc t _)|(rw [<-l];exact f.alloc t _));rw [ag,a6.out];have G:=(c.cell (p:=k) q).trans y.out;clear l F;obtain ⟨L,g,i,d⟩:=a4.out U;have o:=d;rw [<-a6.out] at d;have I:A < av:=o;have H:IntKind.i64.wrap (64+((a - 64:Nat):Int))=(a:Int):=(by have R:=a2.out;have T:=a7.out;rw [IntKind.wrap_i64];omega);obtain ⟨aP,W⟩:=eqx (a - 64);rw [W] at H g i;obtain ⟨B,C,D⟩:=hqq3 g i d;clear L g i d o W U;go_wp2_with fail;refine (gN Y B.out C.out D.out (a3.out.below c z) (zAl z c.size)).mono ?_;rintro v aj ⟨rfl,J⟩;have s:=c.trans (J.mono c.size);have ak:=(s.cell (p:=k) q).trans y.out;clear G;go_wp2_with fail;go_ret;exact ⟨rfl,s⟩
 | false=>
   replace a9:=a9.out rfl;clear a8;go_enter func270,ntmps270;go_wp2_with fail;go_loopw [1,21] (fun Z K wr=>∃x:Nat,K=.int .i64 (x:Int)/\((x=0/\Z=.int .i64 (j:Int))∨(x=1/\64<=a/\Z=.int .i64 (A:Int)))/\Below e.heap.size e wr) (fun _ K _=>2 -(intOf K).toNat)
   case atStart=>exact ⟨0,rfl,.inl ⟨rfl,rfl⟩,Below.refl _ _⟩
   case round=>
    obtain ⟨x,rfl,(⟨rfl,rfl⟩|⟨rfl,U,rfl⟩),f⟩:=hrel
    all_goals
        obtain ⟨aJ,aK⟩:=a9
    · clear N O aI;have t:=f.size;have F:=(f.cell (p:=k) q).trans n;clear n;go_wp2_with fail;refine (gU _ 1 1 _ [a1] _ (Rd.made _ _ 1 1 _ rfl) (by simpa using X) oM).mono ?_;rintro v E ⟨rfl,l⟩;have c:Below e.heap.size e E:=(by first |(rw [l];exact f.alloc t _)|(rw [<-l];exact f.alloc t _));rw [ag,a5.out];have G:=(c.cell (p:=k) q).trans y.out;clear l F;by_cases w:a < 64
      · obtain ⟨g,i,d⟩:=ay.out w;have o:=d;rw [a5.out] at o;have I:j < u:=o;have H:IntKind.i64.wrap (a:Int)=(a:Int):=(by rw [IntKind.wrap_i64];omega);obtain ⟨B,C,D⟩:=hqq3 g i d;clear g i d o;go_wp2_with fail;refine (gN X B.out C.out D.out (a3.out.below c z) (zAl z c.size)).mono ?_;rintro v aj ⟨rfl,J⟩;have s:=c.trans (J.mono c.size);have ak:=(s.cell (p:=k) q).trans y.out;clear G;go_wp2_with fail;go_ret;exact ⟨rfl,s⟩
      · obtain ⟨L,g,i,d⟩:=a4.out oM;have I:¬j < u:=oM;have aM:decide (j < u)=false:=zBy I;have H:IntKind.i64.wrap ((j:Int) -(u:Int))=(A:Int):=(by have:=ax.out;have R:=a2.out;have T:=aw.out;have al:=a7.out;rw [IntKind.wrap_i64];omega);clear L g i d;go_wp2_with fail;go_roundw
        case rel=>exact ⟨1,by go_num,.inr ⟨by first | rfl | trivial,by omega,by go_num⟩,c⟩
        case measure=>simp [intOf]
    · clear N O aH;have t:=f.size;have F:=(f.cell (p:=k) q).trans n;clear n;go_wp2_with fail;refine (gU _ 1 1 _ [M] _ (Rd.made _ _ 1 1 _ rfl) (by simpa using Y) oM).mono ?_;rintro v E ⟨rfl,l⟩;have c:Below e.heap.size e E:=(by first |(rw [l];exact f.alloc t _)|(rw [<-l];exact f.alloc t _));rw [ag,a6.out];have G:=(c.cell (p:=k) q).trans y.out;clear l F;obtain ⟨L,g,i,d⟩:=a4.out U;have o:=d;rw [<-a6.out] at d;have I:A < av:=o;have H:IntKind.i64.wrap (64+((a - 64:Nat):Int))=(a:Int):=(by have R:=a2.out;have T:=a7.out;rw [IntKind.wrap_i64];omega);obtain ⟨aP,W⟩:=eqx (a - 64);rw [W] at H g i;obtain ⟨B,C,D⟩:=hqq3 g i d;clear L g i d o W U;go_wp2_with fail;refine (gN Y B.out C.out D.out (a3.out.below c z) (zAl z c.size)).mono ?_;rintro v aj ⟨rfl,J⟩;have s:=c.trans (J.mono c.size);have ak:=(s.cell (p:=k) q).trans y.out;clear G;go_wp2_with fail;go_ret;exact ⟨rfl,s⟩
def aAz:List (String×DataW Unit):= [("math/bits.deBruijn64tab",Rows.laid_math_bits_deBruijn64tab)]
def aKQ:prog.globalNamed "math/bits.deBruijn64tab" =some 7:=by kernel_rfl
def aKU:(prog.globals[7]?).map (·.type)=some 294:=by kernel_rfl
def aFA:(Rows.laid_math_bits_deBruijn64tab:DataW Unit)=Lib.tabData .u8 (Lib.deBruijn64tab.map fun a:Nat=>(a:Int)):=rfl
def aAy {b:World} (a:laidMetH prog aAz b):TabW b:=by
 rw [MakeChecks.laidMetH_plain _ _ _ kR] at a;unfold aAz at a;rw [aFA] at a;have d:=Lib.tabIs_of_head aKQ aKU underlying294 underlying5 kR kR a;intro c e;have:=d.cell aKQ c (by rw [zBc];exact e);rw [this,zAb,zAf,zAb];cases Lib.deBruijn64tab[c]? <;> rfl
def OwnF (b:Nat->Prop) (c:Value):Prop:=∀a,c.ownBlock=some a->b a
def Gw (b:Nat->Prop) (c:Nat) (a:Nat):Prop:=b a∨c<=a
def Gw.keep {F:Nat->Prop} {b w1 c:World} (d:Keep F b w1) (e:Keep (Gw F b.heap.size) w1 c):Keep F b c:=d.trans' e fun f g a=>by
 rcases a with a | a;exact a;omega
def OwnF.mono {F G:Nat->Prop} {b:Value} (c:OwnF F b) (e:∀a,F a->G a):OwnF G b:=fun a d=>e a (c a d)
def OwnF.slice {b:Nat->Prop} {c g f d:Nat} (e:b c):OwnF b (.slice (some ⟨c,g,none⟩) f d):=fun i a=>by
 injection a with a;rw [<-a];exact e
def OwnF.at {b:Nat->Prop} {a f e c:Nat} (d:OwnF b (.slice (some ⟨a,f,none⟩) e c)):b a:=d a rfl
def ArenaE (i:World) (e:Nat->Prop) (j:Nat) (b:List Bool) (a:List Nat):Prop:=
 e j/\∃d g c f,Bk i j 154 #[.slice d b.length g,.slice c a.length f,.int .i64 268435456]/\i.ownsRow 0 4 1 (.slice d b.length g) b.length (b.map Value.bool)/\i.ownsRow 0 3 1 (.slice c a.length f) a.length (a.map sv)/\OwnF e (.slice d b.length g)/\OwnF e (.slice c a.length f)
def aJj {k:World} {e a m b c:Nat} {f:TypeId} {d:Option Addr} {l:List Value} (g:k.ownsRow e f b (.slice d a c) a l) (t:m<=a) (x:0 < a):k.ownsRow e f b (.slice d m c) m (l.take (m*b)):=by
 rcases g.2 with ⟨i,j⟩|⟨o,v,n,i,j,p,w,q,r,s⟩;omega
 · injection i with h8 h9 h10;subst h8 h10;have u:m*b<=a*b:=Nat.mul_le_mul_right _ t;refine ⟨by rw [zAj,g.1];omega,.inr ⟨o,c,n,rfl,j,p,by omega,q,r,?_⟩⟩;rw [<-s,List.take_take,zCu u]
def aJk {m:World} {f c l b:Nat} {g:TypeId} {e:Option Addr} {n:List Value} (i:m.ownsRow f g l (.slice e c b) c n):c<=b/\b<=maxLen:=by
 rcases i.2 with ⟨a,d⟩|⟨q,o,p,a,d,r,j,k,s,t⟩;injection a with _ _ a;subst a;subst d;exact ⟨zAs _,zAp _⟩;injection a with _ _ a;subst a;exact ⟨j,k⟩
def ArenaE.vis {f w':World} {b:Nat->Prop} {d:Nat} {e:List Bool} {c:List Nat} (l:ArenaE f b d e c) (a:Vis f w'):ArenaE w' b d e c:=by
 obtain ⟨m,i,k,g,j,n,o,p,q,r⟩:=l;exact ⟨m,i,k,g,j,a.bk n dC dC,a.own o dC dC,a.own p dC dC,q,r⟩
def ArenaE.mono {d:World} {F G:Nat->Prop} {f:Nat} {k:List Bool} {e:List Nat} (p:ArenaE d F f k e) (c:∀a,a < d.heap.size->F a->G a):ArenaE d G f k e:=by
 obtain ⟨q,m,o,l,n,g,i,j,r,s⟩:=p;exact ⟨c _ g.lt q,m,o,l,n,g,i,j,fun a b=>c a (i.lt a b).2 (r a b),fun a b=>c a (j.lt a b).2 (s a b)⟩
def ArenaE.keep {g q:World} {F G:Nat->Prop} {j:Nat} {p:List Bool} {i:List Nat} (v:ArenaE g F j p i) (f:Keep G g q) (e:∀a o c,o∈ [154,4,3]->Bk g a o c->F a->¬G a):ArenaE q F j p i:=by
 obtain ⟨k,s,u,r,t,l,w,x,m,n⟩:=v;refine ⟨k,s,u,r,t,f.bk l (e _ _ _ dC l k),aA w fun a c d b=>f.bk b (e _ _ _ dC b (m a d)),aA x fun a c d b=>f.bk b (e _ _ _ dC b (n a d)),m,n⟩
def uD {i:Nat->Prop} {b k:Nat} {o:List Bool} {fr:List Nat} {g:World} (ar:ArenaE g i b o (fr++ [k])) (aB:k < o.length) (aG:o.length<=1000000) (a6:fr.length < o.length):
 Calls prog 69 #[b] g fun q C=>q=.returned (.tuple #[(k:Int),.int .i64 0])/\ArenaE C i b (o.set k true) fr/\Keep i g C:=by
 obtain ⟨a3,af,E,ag,j,s,v,u,T,R⟩:=ar;obtain ⟨z,P⟩:=eqx o.length;obtain ⟨a,t⟩:=eqx fr.length;have a9:(fr++ [k]).length=a+1:=by simp [t]
 rw [a9] at s u R;rw [P] at s v T aG aB a6;rw [t] at a6;obtain ⟨f,aO,K,_,az⟩:=World.ownsRow.form v oM;injection K with K _ hcc;subst K hcc;obtain ⟨e,aK,L,_,a8⟩:=World.ownsRow.form u oM;injection L with L _ hcc2;subst L hcc2;have b0:=aJk u;have U:=aJj (m:=a) u oM oM;have a7:((fr++ [k]).map sv).take (a*1)=fr.map sv:=by
  have:(fr.map sv).length=a:=by rw [zBc,t]
  rw [zAz,zBl,<-this,List.take_left]
 rw [a7] at U;have a0:g.cell? ⟨e,a,none⟩=some (.int .i64 (k:Int)):=by refine (World.ownsRow.cellAt u a oM).trans ?_;rw [zAz,zAo (by simp [t]),zBc,t,Nat.sub_self];rfl
 obtain ⟨I,ae⟩:∃I,o[k]?=some I:=⟨_,zAa oM⟩;have a2:g.cell? ⟨f,k,none⟩=some (.bool I):=by refine (World.ownsRow.cellAt v k oM).trans ?_;rw [zAf,ae];rfl
 have ad:b≠f:=fun q=>aS v s dC (by rw [q];rfl);have b1:b≠e:=fun q=>aS u s dC (by rw [q];rfl);have ay:∃G,Bk g f 4 G:=by
  rcases v.2 with ⟨n,_⟩|⟨aZ,aL,G,n,_,au,_⟩
  · cases n
  injection n with n _ _;injection n with n;injection n with n _;subst n;exact ⟨G,au⟩
 obtain ⟨G,a5⟩:=ay;have b4:=s.lt;obtain ⟨y,an,al,ak,aj,X,W,Y⟩:=hqq8 s v U T R a5 P t;clear s v u U T R a7 a9 ae P t a5;go_enter func69,ntmps69;go_wp2;refine wp_region_any kR ?_;refine aY (S:=(Grow)) (V:=(Vs [is b,is (.int .i64 ((z -(a+1):Nat):Int)),is b,is b,is (.pointer (some ⟨b,2,none⟩)),is (.int .i64 268435456),is (.bool false),is (.bool false)])) [10,11,12,13,14,15,16,9] _ rfl kR bR (fun _ _=>Grow.trans) (cK tA0) ?_ ?_
 · refine aV ?_;refine pH 0 (.pointer (some b)) ?_;refine sC (fun _ D d _ _ _ x _ _ _ O=>?_) ?_
   · have aR:_=_:=x 0 10 kR rfl;replace d:(Grow) g D:=gD d;go_simp;refine (pA (ga:=b) (A:=(some ⟨f,0,none⟩)) (c:=E) (Af:=(some ⟨e,0,none⟩)) (cf:=j) (N:=z) (M:=(a+1)) (w:=D) (y.out.below d y.out.lt) oM oM).mono ?_;rintro q bb ⟨rfl,Q⟩;exact O _ _ Q rfl
   refine pH 0 (.pointer (some b)) ?_;refine pV 2 12 ?_;refine pV 3 13 ?_;refine pL 4 14 (fun D d=>have d:(Grow) g D:=gD d;(((y.out.below d y.out.lt).cell 2).trans rfl:D.cell? ⟨b,2,none⟩=some (.int .i64 268435456))) ?_;refine sC (fun _ _ _ _ _ _ x _ _ _ O=>?_) ?_
   · have aT:_=_:=x 1 11 kR rfl;have aU:_=_:=x 5 15 kR rfl;have b6:(((z -(a+1):Nat):Int)==268435456)=false:=(by rw [zCb];omega);go_simp;exact O _ _ bR (by first | rfl | simp [is] |(simp [is];omega))
   refine pV 6 16 ?_;exact aH
 · intro aq l d x;replace d:(Grow) g l:=gD d;have ap:aq (.tmp 9)=.bool false:=x 7 9 rfl;simp only [zqq];rw [ap];clear x;have B:=y.out.below d y.out.lt;have H:=X.out.below d X.out.lt;have aI:l.cell? b=some (.slice (some f) z E):=(B.cell 0).trans rfl;have aJ:l.cell? ⟨b,1,none⟩=some (.slice (some e) (a+1) j):=(B.cell 1).trans rfl;have aW:=B.frozen 1;have aX:=H.frozen k;have aN:l.cell? ⟨e,a,none⟩=some (.int .i64 (k:Int)):=(d.cell (p:=⟨e,a,none⟩) a8).trans a0;have aP:l.cell? ⟨f,k,none⟩=some (.bool I):=(d.cell (p:=⟨f,k,none⟩) az).trans a2;have b2:=B.lt;have b5:=H.lt;have b3:e < l.heap.size:=zAl a8 d.size;have ab:=aM an.out d;have aa:=aM al.out d;obtain ⟨ah,J,ai,ao,am⟩:=hqq5 d B H ab aa;have aQ:IntKind.i64.wrap (((a+1:Nat):Int) - 1)=(a:Int):=(by rw [IntKind.wrap_i64];omega);have b7:(a:Int) < ((a+1:Nat):Int):=oM;have b8:(k:Int) < (z:Int):=oM;have b9:(a:Int)<=(j:Int):=oM;have ba:((a+1:Nat):Int) > 0:=oM;clear d B H ab aa a0 a2;go_wp2_with fail;go_ret2;have aC:Keep i g l:=Keep.of_below ah.out;have aw:=J.out.set 1 (.slice (some e) a j);have Q:=aw.far (p:=⟨f,k,none⟩) ad (.bool true);have aF:=aA (w':=l.setCell ⟨b,1,none⟩ (.slice (some e) a j)) ao.out fun Z a1 _ r=>r.far (Bk.ne r J.out dC) _;have ac:=(World.ownsRow.stored aF k (.bool true)).1;have aD:=aA (w':=l.setCell ⟨b,1,none⟩ (.slice (some e) a j)) am.out fun Z a1 _ r=>r.far (Bk.ne r J.out dC) _;have ax:=ai.out.far (p:=⟨b,1,none⟩) (fun q=>ad q.symm) (.slice (some e) a j);have aE:=aA (w':=(l.setCell ⟨b,1,none⟩ (.slice (some e) a j)).setCell ⟨f,k,none⟩ (.bool true)) aD fun Z a1 _ r=>r.far (Bk.ne r ax dC) _;have a4:i f:=OwnF.at ak.out;have av:i e:=OwnF.at aj.out;rw [show ((o.map Value.bool).set k (.bool true))=(o.set k true).map Value.bool by rw [List.map_set]] at ac;refine ⟨rfl,⟨a3,some ⟨f,0,none⟩,E,some ⟨e,0,none⟩,j,?_,?_,?_,?_,?_⟩,?_⟩;rw [zAt,W.out,Y.out];exact Q;rw [zAt,W.out];exact ac;rw [Y.out];exact aE;rw [zAt];exact OwnF.slice a4;exact OwnF.slice av;exact Keep.setCell (F:=i) (Keep.setCell (F:=i) aC (p:=⟨b,1,none⟩) (.inl a3) _) (p:=⟨f,k,none⟩) (.inl a4) _
def aDm {m:Nat->Prop} {e a:Nat} {i:List Bool} {p:List Nat} {b:World} (q:ArenaE b m e i p) (g:i[a]?=some true):
 Calls prog 286 #[e,(a:Int)] b fun o v=>o=.returned (.bool true)/\b=v:=by
 obtain ⟨C,w,n,x,z,c,d,u,t,s⟩:=q;obtain ⟨r,_⟩:=zAc.1 g;obtain ⟨j,l⟩:=eqx i.length;rw [l] at c d r;obtain ⟨k,B,f,_,E⟩:=World.ownsRow.form d oM;injection f with f _ hcc;subst f hcc;have y:b.cell? e=some (.slice (some k) j n):=(c.cell 0).trans rfl;have A:b.cell? ⟨k,a,none⟩=some (.bool true):=by refine (World.ownsRow.cellAt d a oM).trans ?_;rw [zAf,g];rfl
 have D:=c.lt;have G:(a:Int) < (j:Int):=oM;have F:decide ((a:Int)>=0)=true:=by simp
 clear c d u t s l g;go_enter func286,ntmps286;go_wp2_with fail;go_ret;exact ⟨rfl,rfl⟩
def aDf {F:Nat->Prop} {ga gs k:Nat} {tk:List Bool} {fr:List Nat} {w:World} (l:ArenaE w F ga tk fr) (B:tk[k]?=some true) (r:Bk w gs 3 #[(k:Int)]) (ao:fr.length<=1000000):
 Calls prog 264 #[ga,.slice (some gs) 1 1] w fun j D=>j=.returned (.int .i64 0)/\ArenaE D (Gw F w.heap.size) ga (tk.set k false) (fr++ [k])/\Keep F w D:=by
 have a5:=aDm l B;obtain ⟨a2,aI,v,m,o,c,i,P,N,M⟩:=l;obtain ⟨av,_⟩:=zAc.1 B;obtain ⟨aG,aq,aD,aE,aF⟩:=info_parts iD;obtain ⟨n,J⟩:=eqx tk.length;obtain ⟨d,L⟩:=eqx fr.length;rw [L] at c P M ao;rw [J] at c i N av;obtain ⟨a,aJ,I,_,aT⟩:=World.ownsRow.form i oM;injection I with I _ hcc;subst I hcc;have ai:w.cell? ⟨a,k,none⟩=some (.bool true):=by refine (World.ownsRow.cellAt i k oM).trans ?_;rw [zAf,B];rfl
 have aC:ga≠a:=fun j=>aS i c dC (by rw [j];rfl);have ap:∃y,Bk w a 4 y:=by
  rcases i.2 with ⟨b,_⟩|⟨a1,ah,y,b,_,H,_⟩
  · cases b
  injection b with b _ _;injection b with b;injection b with b _;subst b;exact ⟨y,H⟩
 obtain ⟨y,A⟩:=ap;have am:=A.frozen k;have ag:w.cell? ga=some (.slice (some a) n v):=(c.cell 0).trans rfl;have aj:w.cell? gs=some (.int .i64 (k:Int)):=(r.cell 0).trans rfl;have aP:=c.lt;have aQ:=r.lt;have aU:(k:Int) < (n:Int):=oM;have aB:gs≠a:=Bk.ne r A dC;obtain ⟨e,g⟩:=eqx (w.setCell ⟨a,k,none⟩ (.bool false));have q:Bk e ga 154 #[.slice (some a) n v,.slice m d o,.int .i64 268435456]:=by rw [<-g];exact c.far (p:=⟨a,k,none⟩) aC _
 have R:Bk e gs 3 #[(k:Int)]:=by rw [<-g];exact r.far (p:=⟨a,k,none⟩) aB _
 have a8:e.ownsRow 0 4 1 (.slice (some a) n v) n ((tk.set k false).map Value.bool):=by rw [<-g,List.map_set];exact (World.ownsRow.stored i k (.bool false)).1
 have Q:e.ownsRow 0 3 1 (.slice m d o) d (fr.map sv):=by rw [<-g];exact aA P fun u Z _ f=>f.far (p:=⟨a,k,none⟩) (Bk.ne f A dC) _
 have a3:F a:=OwnF.at N;have a6:Keep F w e:=by rw [<-g];exact Keep.setCell (F:=F) (Keep.refl _ _) (p:=⟨a,k,none⟩) (.inl a3) _
 have aL:e.cell? ⟨ga,1,none⟩=some (.slice m d o):=(q.cell 1).trans rfl;have aO:=q.lt;have a7:Rd e e.heap.size 1 (some ⟨gs,0,none⟩) 1 [.int .i64 (k:Int)]:=⟨rfl,fun _=>⟨gs,0,rfl,R.lt,fun C aW a9=>by
  rw [zBi,R.cell];rcases C with _ | C;exact a9
  · simp at a9⟩⟩
 obtain ⟨ac,Y,X,V,af,aa,W,G,T⟩:=hqq9 q a8 Q a6 a7 g M L J;have ad:=lhd (aS Q q dC);clear c i P N M J L A r B q R a8 Q a6 g a7;go_enter func264,ntmps264;go_wp2_with fail;refine wp_loop_rounds 2 ?_;rw [rounds_succ];go_wp2_with fail;refine a5.mono ?_;rintro j w1 ⟨rfl,rfl⟩;clear a5;go_wp2_with fail;rw [aa.out];clear ag aj ai am;rw [rounds_succ];go_wp2_with (at_builtin;refine bK _ rfl (.tmp 48) (.tmp 49) _ rfl 0 3 aG (.int .i64 0) 1 8 underlying48 aq aD aE aF rfl dC (.slice m d o) d _ rfl X.out _ _ _ _ _ rfl af.out (by simp [Value.oneCell']) (by unfold maxLen;omega) oM (zAp _) ?_;intro aX S O K a4;have z:=ac.out.grown K ad.out;have aN:=z.frozen 1;have aM:=z.cell 1;obtain ⟨ae,U,ab,E⟩:=hqq4 O K a4 z;obtain ⟨s,x,rfl,aw⟩:=aR O;clear O K a4 z aw);go_ret;have au:Keep F w S:=V.out.grown U.out (fun C ar=>.inl (W.out C ar));have an:=E.out.set 1 (.slice s (d+1) x)
 have ay:=World.ownsRow.kept Y.out U.out (by
  rcases hh:(Value.slice m d o).ownBlock with _ | aH
  · right;simp [Value.ownBlock]
  · right;intro j;have ak:a=aH:=(by simpa [Value.ownBlock] using j);subst ak;rcases X.out.2 with ⟨b,_⟩|⟨a1,ah,aK,b,_,H,_⟩
    · rw [b] at hh;simp [Value.ownBlock] at hh
    · rw [b] at hh;have al:a1=a:=(by simpa [Value.ownBlock] using hh);subst al;exact aS Y.out (t:=3) H dC rfl)
 have az:=aA (w':=S.setCell ⟨ga,1,none⟩ (.slice s (d+1) x)) ay fun u Z _ f=>f.far (Bk.ne f E.out dC) _;have ax:=aA (w':=S.setCell ⟨ga,1,none⟩ (.slice s (d+1) x)) ae.out fun u Z _ f=>f.far (Bk.ne f E.out dC) _;have aV:=V.out.size;refine ⟨rfl,⟨.inl a2,some ⟨a,0,none⟩,v,s,x,?_,?_,?_,?_,?_⟩,?_⟩;rw [zAt,T.out,zAi,G.out];exact an;rw [zAt,T.out];exact az;rw [zAi,G.out,zAz];exact ax;exact OwnF.slice (.inl a3);intro u c;rw [zAi,G.out] at c;rcases ab.out with l | l;exact .inl (W.out u (l.symm.trans c));have a0:=l.symm.trans c;injection a0 with a0;exact .inr oM;exact Keep.setCell (F:=F) au (p:=⟨ga,1,none⟩) (.inl a2) _
end Go.Proofs.YtcoooelofcejbaaGreatDoor
