/- Lemmas of the walk. Conditions: each its own. -/
import Derived.Test.YtcfpmjbojoidoaaGreatDoorPd3
import Derived.Test.YtcfpmjbojoidoaaGreatDoorPd4
import Derived.Test.YtcfpmjbojoidoaaGreatDoorSht
import Derived.Test.YtcfpmjbojoidoaaGreatDoorProg
import Derived.Test.YtcfpmjbojoidoaaGreatDoorShd
import Derived.Test.YtcfpmjbojoidoaaGreatDoorShl
set_option linter.all false
set_option maxRecDepth 100000
set_option maxHeartbeats 4000000
open Go.Proofs.Tryz
namespace Go.Proofs.YtcfpmjbojoidoaaGreatDoor
open Go.RowKit
def TabW (a:World):Prop:=TabAt 7 Lib.deBruijn64tab a
def TabW.below {B:Nat} {b c:World} (d:TabW b) (g:Below B b c) (e:7 < B):TabW c:=fun a f=>(g.cell (p:=⟨7,a,none⟩) e).trans (d a f)
def TabW.pos {a:World} (c:TabW a):7 < a.heap.size:=by
 have d:=c 0 dC;rcases zBe 7 a.heap.size with b | b;exact b
 · exfalso;have:a.heap[7]?=none:=Array.getElem?_eq_none b;simp [World.cell?,this] at d
def aJj (b c:Nat) (g:b < 18446744073709551616) (f:Lib.ctz 64 b=c) (a:World) (e:TabW a):
 Calls prog 247 #[.int .u64 (b:Int)] a fun d i=>d=.returned (.int .i64 (c:Int))/\i=a:=by
 have:=Any7.bits_TrailingZeros64 shTz b g a (fun _=>e);rw [f] at this;exact this
def gI (a m c:Nat) (s:a < 18446744073709551616) (q:a.testBit m=true) (p:aY a m=c) (B:c < aY a 64) (d:World) (j:TabW d) (N:7 < d.heap.size):
 Calls prog 281 #[.int .u64 (a:Int),(c:Int)] d fun n Q=>n=.returned (.int .i64 (m:Int))/\Below d.heap.size d Q:=by
 have A:=aIq (x:=a) s q p;have r:=fun e M=>aEx (x:=a) s q (i:=e) M;rw [p] at r;have C:=aDF a;have L:=mY a 64;obtain ⟨I,J,u,R,H⟩:=hqq5 A r C B j;clear A r C q p j;have U:decide ((c:Int) < 0)=false:=by simp
 go_enter func281,ntmps281;go_wp2_with fail;refine (gO _ 1 1 _ [a] _ (Rd.made _ _ 1 1 _ rfl) (by simpa using s) oM).mono ?_;rintro n v ⟨rfl,o⟩;have y:Below d.heap.size d v:=by first |(rw [o];exact bR.alloc nL _)|(rw [<-o];exact bR.alloc nL _)
 have E:(([a].map fun a=>aY a 64).sum)=aY a 64:=by simp
 rw [E];obtain ⟨O,D⟩:=eqx (aY a 64);rw [D] at B L⊢;have V:decide ((c:Int)>=(O:Int))=false:=by simp;omega
 clear E D;have t:=lhd y;clear o y;go_wp2_with fail;go_loopw [0,15] (fun P e wr=>∃b:Nat,b<=c/\e=.int .i64 (b:Int)/\P=.int .u64 ((clr a b:Nat):Int)/\wr=v) (fun _ e _=>c -(intOf e).toNat)
 case atStart=>exact ⟨0,zAp _,rfl,rfl,rfl⟩
 case round=>
  obtain ⟨b,X,rfl,rfl,rfl⟩:=hrel;by_cases W:b < c
  · have w:=J.out b oM;have k:=u.out b;have l:clr a (b+1)=clr a b&&&(clr a b - 1):=rfl;obtain ⟨g,f⟩:=eqx (clr a b);rw [f] at w k l⊢;obtain ⟨G,F⟩:=eqx (g - 1);rw [F] at l;have S:IntKind.u64.wrap ((g:Int) - 1)=(G:Int):=(by rw [IntKind.wrap_u64];omega);have T:=aB9 g G oM oM;have K:=lhd l;clear f F l w k;go_wp2_with fail;go_roundw
    case rel=>exact ⟨b+1,by omega,by go_num,by rw [K.out],by first | rfl | trivial⟩
    case measure=>simp [intOf];omega
  · obtain rfl:b=c:=oM;have k:=u.out b;have z:=I.out;obtain ⟨g,f⟩:=eqx (clr a b);rw [f] at k z⊢;have j:=H.out.below t.out N;clear f;go_wp2_with fail;refine (aJj g m oM z _ j).mono ?_;rintro n Y ⟨rfl,rfl⟩;go_wp2_with fail;go_ret;exact ⟨rfl,t.out⟩
def aHR (a:Nat) (c:a < 18446744073709551616):18446744073709551615 ^^^ a=18446744073709551615 - a:=by
 have e:18446744073709551615=2 ^ 64 - 1:=dC;have f:18446744073709551615 - a=2 ^ 64 -(a+1):=oM;rw [f,e];apply Nat.eq_of_testBit_eq;intro b;rw [Nat.testBit_xor,Nat.testBit_two_pow_sub_one,Nat.testBit_two_pow_sub_succ c];by_cases d:b < 64
 · simp [d]
 · have:a.testBit b=false:=Nat.testBit_lt_two_pow (zAl (show a < 2 ^ 64 from c) (zBp dC (show 64<=b by omega)));simp [d,this]
def aID (a:Nat) (b:a < 18446744073709551616):bits .xor .u64 IntKind.u64.max (a:Int)=((eS a false:Nat):Int):=by
 have c:IntKind.u64.max=((18446744073709551615:Nat):Int):=dC;rw [c,bits_xor_u64_nat _ _ oM b];congr 1;unfold eS;simp only [Bool.false_eq_true,if_false];exact aHR a b
def tD (k:Nat) (n:List Bool) (m:Bool) (a f:Nat) (e:World) (W:Bk e k 292 (gK n)) (T:n.length<=128) (ah:n[a]?=some m) (ag:(n.take a).count m=f) (am:TabW e):
 Calls prog 262 #[k,(f:Int),.bool m] e fun w aQ=>w=.returned (.int .i64 (a:Int))/\Below e.heap.size e aQ:=by
 have au:=(zAc.1 ah).1;have B:7 < e.heap.size:=am.pos;have Y:=aBd _ m (lS n);have Z:=aBd _ m (lP n T);have aF:=lS n;have aG:=lP n T;have o:=W.cell 0;have O:=W.cell 1;have P:=W.cell 2;have aS:decide ((f:Int) < 0)=false:=by simp
 have aP:a < n.length:=au;have ai:∀a1:Nat,(([a1].map fun a1=>aY a1 64).sum)=aY a1 64:=fun a1=>by simp
 obtain ⟨N,Q⟩:=eqx (eS (w0 n) m);obtain ⟨z,R⟩:=eqx (eS (w1 n) m);unfold gK at o O P;obtain ⟨a2,ac⟩:=eqx (w0 n);obtain ⟨a3,ad⟩:=eqx (w1 n);obtain ⟨aM,ae⟩:=eqx n.length;have aI:=ix0 (a2:Int) (a3:Int);have aJ:=ix1 (a2:Int) (a3:Int);rw [Q] at Y;rw [R] at Z;rw [ac] at aF Q;rw [ad] at aG R;rw [ae,ac,ad] at o O P;rw [ae] at aP;have a5:=lhd am;replace o:e.cell? k=some (.int .i64 (aM:Int)):=o.trans rfl;have r:=W.lt;obtain ⟨A,a4⟩:=hqq2 o T;have aD:f<=a:=by rw [<-ag];exact zAk zBv (by rw [zAj];omega)
 have ax:=lhd aD;clear aD;have ap:=fun x=>aIR (b:=m) T ah ag x;have af:=fun x=>aIS (b:=m) T ah ag x;rw [ac,Q] at ap af;rw [ad,R] at af;obtain ⟨v,aq⟩:=eqx (aY N 64);obtain ⟨av,ar⟩:=eqx (aY z 64);obtain ⟨u,ao⟩:=eqx (f - v);have aC:64<=a->v<=f/\z.testBit (a - 64)=true/\aY z (a - 64)=u/\u < av:=fun x=>by obtain ⟨aU,aT,aA,aO,S,U,al,aB⟩:=af x;rw [aq] at aA;rw [ar] at aB;subst aA;rw [ao] at S;subst S;exact ⟨aO,U,al,aB⟩
 have aH:m=false->bits .xor .u64 IntKind.u64.max (a2:Int)=(N:Int)/\bits .xor .u64 IntKind.u64.max (a3:Int)=(z:Int):=fun an=>by rw [<-Q,<-R,an];exact ⟨aID a2 aF,aID a3 aG⟩
 have aE:m=true->N=a2/\z=a3:=fun an=>by rw [<-Q,<-R,an];simp [eS]
 obtain ⟨az,a6,a7,a8,ay,aR,a9⟩:=hqq7 ap aC aq ar ao ae au;clear ap af aC aq ar ao ae ah ag W T am Q R ac ad au;obtain ⟨ab,aa⟩:=hqq2 aH aE;clear aH aE;cases m with
 | true=>
   replace aa:=aa.out rfl;clear ab;go_enter func262,ntmps262;go_wp2_with fail;go_loopw [1,21] (fun a0 L wr=>∃y:Nat,L=.int .i64 (y:Int)/\((y=0/\a0=.int .i64 (f:Int))∨(y=1/\64<=a/\a0=.int .i64 (u:Int)))/\Below e.heap.size e wr) (fun _ L _=>2 -(intOf L).toNat)
   case atStart=>exact ⟨0,rfl,.inl ⟨rfl,rfl⟩,Below.refl _ _⟩
   case round=>
    obtain ⟨y,rfl,(⟨rfl,rfl⟩|⟨rfl,V,rfl⟩),g⟩:=hrel
    all_goals
        obtain ⟨aK,aL⟩:=aa;subst aK;subst aL
    · clear O P aJ;have t:=g.size;have G:=(g.cell (p:=k) r).trans o;clear o;go_wp2_with fail;refine (gO _ 1 1 _ [N] _ (Rd.made _ _ 1 1 _ rfl) (by simpa using Y) oM).mono ?_;rintro w F ⟨rfl,l⟩;have c:Below e.heap.size e F:=(by first |(rw [l];exact g.alloc t _)|(rw [<-l];exact g.alloc t _));rw [ai,a7.out];have H:=(c.cell (p:=k) r).trans A.out;clear l G;by_cases x:a < 64
      · obtain ⟨i,j,d⟩:=az.out x;have q:=d;rw [a7.out] at q;have J:f < v:=q;have I:IntKind.i64.wrap (a:Int)=(a:Int):=(by rw [IntKind.wrap_i64];omega);obtain ⟨C,D,E⟩:=hqq3 i j d;clear i j d q;go_wp2_with fail;refine (gI N a f Y C.out D.out E.out _ (a5.out.below c B) (zAl B c.size)).mono ?_;rintro w aj ⟨rfl,K⟩;have s:=c.trans (K.mono c.size);have ak:=(s.cell (p:=k) r).trans A.out;clear H;go_wp2_with fail;go_ret;exact ⟨rfl,s⟩
      · obtain ⟨M,i,j,d⟩:=a6.out oM;have J:¬f < v:=oM;have aN:decide (f < v)=false:=zBy J;have I:IntKind.i64.wrap ((f:Int) -(v:Int))=(u:Int):=(by have:=ay.out;have S:=a4.out;have U:=ax.out;have al:=a9.out;rw [IntKind.wrap_i64];omega);clear M i j d;go_wp2_with fail;go_roundw
        case rel=>exact ⟨1,by go_num,.inr ⟨by first | rfl | trivial,by omega,by go_num⟩,c⟩
        case measure=>simp [intOf]
    · clear O P aI;have t:=g.size;have G:=(g.cell (p:=k) r).trans o;clear o;go_wp2_with fail;refine (gO _ 1 1 _ [z] _ (Rd.made _ _ 1 1 _ rfl) (by simpa using Z) oM).mono ?_;rintro w F ⟨rfl,l⟩;have c:Below e.heap.size e F:=(by first |(rw [l];exact g.alloc t _)|(rw [<-l];exact g.alloc t _));rw [ai,a8.out];have H:=(c.cell (p:=k) r).trans A.out;clear l G;obtain ⟨M,i,j,d⟩:=a6.out V;have q:=d;rw [<-a8.out] at d;have J:u < av:=q;have I:IntKind.i64.wrap (64+((a - 64:Nat):Int))=(a:Int):=(by have S:=a4.out;have U:=a9.out;rw [IntKind.wrap_i64];omega);obtain ⟨aw,X⟩:=eqx (a - 64);rw [X] at I i j;obtain ⟨C,D,E⟩:=hqq3 i j d;clear M i j d q X V;go_wp2_with fail;refine (gI z aw u Z C.out D.out E.out _ (a5.out.below c B) (zAl B c.size)).mono ?_;rintro w aj ⟨rfl,K⟩;have s:=c.trans (K.mono c.size);have ak:=(s.cell (p:=k) r).trans A.out;clear H;go_wp2_with fail;go_ret;exact ⟨rfl,s⟩
 | false=>
   replace ab:=ab.out rfl;clear aa;go_enter func262,ntmps262;go_wp2_with fail;go_loopw [1,21] (fun a0 L wr=>∃y:Nat,L=.int .i64 (y:Int)/\((y=0/\a0=.int .i64 (f:Int))∨(y=1/\64<=a/\a0=.int .i64 (u:Int)))/\Below e.heap.size e wr) (fun _ L _=>2 -(intOf L).toNat)
   case atStart=>exact ⟨0,rfl,.inl ⟨rfl,rfl⟩,Below.refl _ _⟩
   case round=>
    obtain ⟨y,rfl,(⟨rfl,rfl⟩|⟨rfl,V,rfl⟩),g⟩:=hrel
    all_goals
        obtain ⟨aK,aL⟩:=ab
    · clear O P aJ;have t:=g.size;have G:=(g.cell (p:=k) r).trans o;clear o;go_wp2_with fail;refine (gO _ 1 1 _ [N] _ (Rd.made _ _ 1 1 _ rfl) (by simpa using Y) oM).mono ?_;rintro w F ⟨rfl,l⟩;have c:Below e.heap.size e F:=(by first |(rw [l];exact g.alloc t _)|(rw [<-l];exact g.alloc t _));rw [ai,a7.out];have H:=(c.cell (p:=k) r).trans A.out;clear l G;by_cases x:a < 64
      · obtain ⟨i,j,d⟩:=az.out x;have q:=d;rw [a7.out] at q;have J:f < v:=q;have I:IntKind.i64.wrap (a:Int)=(a:Int):=(by rw [IntKind.wrap_i64];omega);obtain ⟨C,D,E⟩:=hqq3 i j d;clear i j d q;go_wp2_with fail;refine (gI N a f Y C.out D.out E.out _ (a5.out.below c B) (zAl B c.size)).mono ?_;rintro w aj ⟨rfl,K⟩;have s:=c.trans (K.mono c.size);have ak:=(s.cell (p:=k) r).trans A.out;clear H;go_wp2_with fail;go_ret;exact ⟨rfl,s⟩
      · obtain ⟨M,i,j,d⟩:=a6.out oM;have J:¬f < v:=oM;have aN:decide (f < v)=false:=zBy J;have I:IntKind.i64.wrap ((f:Int) -(v:Int))=(u:Int):=(by have:=ay.out;have S:=a4.out;have U:=ax.out;have al:=a9.out;rw [IntKind.wrap_i64];omega);clear M i j d;go_wp2_with fail;go_roundw
        case rel=>exact ⟨1,by go_num,.inr ⟨by first | rfl | trivial,by omega,by go_num⟩,c⟩
        case measure=>simp [intOf]
    · clear O P aI;have t:=g.size;have G:=(g.cell (p:=k) r).trans o;clear o;go_wp2_with fail;refine (gO _ 1 1 _ [z] _ (Rd.made _ _ 1 1 _ rfl) (by simpa using Z) oM).mono ?_;rintro w F ⟨rfl,l⟩;have c:Below e.heap.size e F:=(by first |(rw [l];exact g.alloc t _)|(rw [<-l];exact g.alloc t _));rw [ai,a8.out];have H:=(c.cell (p:=k) r).trans A.out;clear l G;obtain ⟨M,i,j,d⟩:=a6.out V;have q:=d;rw [<-a8.out] at d;have J:u < av:=q;have I:IntKind.i64.wrap (64+((a - 64:Nat):Int))=(a:Int):=(by have S:=a4.out;have U:=a9.out;rw [IntKind.wrap_i64];omega);obtain ⟨aw,X⟩:=eqx (a - 64);rw [X] at I i j;obtain ⟨C,D,E⟩:=hqq3 i j d;clear M i j d q X V;go_wp2_with fail;refine (gI z aw u Z C.out D.out E.out _ (a5.out.below c B) (zAl B c.size)).mono ?_;rintro w aj ⟨rfl,K⟩;have s:=c.trans (K.mono c.size);have ak:=(s.cell (p:=k) r).trans A.out;clear H;go_wp2_with fail;go_ret;exact ⟨rfl,s⟩
structure TabD (w:World):Prop where
 tab:TabW w
 pow:Lib.TabIs prog w "internal/strconv.uint64pow10" .u64 Lib.pow10Tab
 mx:∃m,w.cell? ⟨0,0,none⟩=some (.int .i64 m)
 low:0 < w.heap.size/\1 < w.heap.size
def aI8:prog.globalNamed "internal/strconv.uint64pow10" =some 1:=by kernel_rfl
def TabD.below {B:Nat} {d e:World} (a:TabD d) (b:Below B d e) (f:7 < B) (g:1 < B) (i:0 < B):TabD e:=by
 refine ⟨a.tab.below b f,?_,?_,⟨zAl a.low.1 b.size,zAl a.low.2 b.size⟩⟩;have c:=a.pow;unfold Lib.TabIs World.var? at c⊢;rw [aI8] at c⊢;simp only [Option.bind_some] at c⊢;rw [b.block _ g];exact c;obtain ⟨k,j⟩:=a.mx;exact ⟨k,(b.cell (p:=⟨0,0,none⟩) i).trans j⟩
def aHl (a:World) (b c:Nat):Below b a (a.drewN c):=⟨rfl,rfl,rfl,zAs _,fun _ _=>rfl⟩
def jP (a:List UInt8):(⟨a.toArray⟩:ByteArray).size=a.length:=by show a.toArray.size=_;simp
def aEC (a:List UInt8) (b:World) (i:a.length < 4294967281) (d:∃e,b.cell? ⟨0,0,none⟩=some (.int .i64 e)):
 Calls prog 18 #[.string ⟨a.toArray⟩,.string ⟨#[32]⟩] b fun c g=>c=.returned (.tuple #[.string ⟨(eP a).1.toArray⟩,.string ⟨(eP a).2.1.toArray⟩,.bool (eP a).2.2])/\Below b.heap.size b g:=by
 obtain ⟨e,d⟩:=d;have f:=Any.strings_Cut shCut ⟨a.toArray⟩ ⟨#[32]⟩ e b (by rw [jP];exact i) d;have c:Lib.cut (⟨a.toArray⟩:ByteArray).data.toList (⟨#[32]⟩:ByteArray).data.toList=eP a:=aJd a;rw [c] at f;exact f.mono (by rintro c g ⟨rfl,j,rfl⟩;exact ⟨rfl,aHl _ _ _⟩)
abbrev eJ (a:List UInt8):Value:=.string ⟨a.toArray⟩
def aFP (a:List UInt8) (b:World) (i:a.length < 4294967281) (d:∃e,b.cell? ⟨0,0,none⟩=some (.int .i64 e)):
 Calls prog 9 #[.string ⟨a.toArray⟩,.string ⟨#[10]⟩] b fun c k=>c=.returned (.slice (some b.heap.size) (bK a).length (bK a).length)/\k=b.alloc (.cells ((bK a).map eJ).toArray 9):=by
 obtain ⟨e,d⟩:=d;have f:=Any.strings_Split shSpl kR ⟨a.toArray⟩ ⟨#[10]⟩ e b (by rw [jP];exact i) d dC;have c:=aGp a;have j:Lib.countB ⟨a.toArray⟩ ⟨#[10]⟩+1=(bK a).length:=by have g:=Lib.splitB_all ⟨#[10]⟩ dC 0 _ ⟨a.toArray⟩ rfl;rw [c,zBc] at g;exact g.symm
 rw [c,j,zCg] at f;exact f
def aHL (b:Int) (a:World) (g:-9223372036854775808<=b) (i:b<=9223372036854775807) (k:Lib.TabIs prog a "internal/strconv.uint64pow10" .u64 Lib.pow10Tab):
 Calls prog 14 #[.int .i64 b] a fun c e=>c=.returned (eJ (Lib.itoa b))/\Below a.heap.size a e:=
 (Any.strconv_Itoa shIto b g i a k).mono (by
  rintro c e ⟨rfl,l,d,rfl⟩;refine ⟨rfl,rfl,rfl,rfl,?_,fun f j=>?_⟩
  · show _<=(a.heap++d).size;simp
  · show (a.heap++d)[f]?=_;rw [Array.getElem?_append_left j])
def aHQ (a:List UInt8) (b:World) (e:a≠ []) (g:a.length<=18) (f:a.all fF=true):
 Calls prog 48 #[.string ⟨a.toArray⟩] b fun c d=>c=.returned (.tuple #[(aDz a:Int),.nilIface])/\Below b.heap.size b d:=
 (Any.strconv_Atoi shAto ⟨a.toArray⟩ (aDz a:Int) (by rw [jP];exact g) (aHC e f) b).mono (by
  rintro c d ⟨rfl,i,rfl⟩;exact ⟨rfl,Go.Joins.below_bytesWorld _ _ _ _ nL⟩)
def aHK (i:Option Addr) (c g:Nat) (a:List (List UInt8)) (d:World) (l:Rd d d.heap.size 1 i c (a.map eJ)) (o:0 < c) (v:c<=g) (r:(Lib.join a [32]).length<=140737488355328) (w:c<=140737488355328):
 Calls prog 15 #[.slice i c g,.string ⟨#[32]⟩] d fun f u=>f=.returned (eJ (Lib.join a [32]))/\Below d.heap.size d u:=by
 obtain ⟨n,t,rfl,p,q⟩:=l.2 o;have s:a.length=c:=by simpa using l.1
 have f:(a.map fun e=>(⟨e.toArray⟩:ByteArray)).map (·.data.toList)=a:=by
  rw [zCg]
  conv=>rhs;rw [<-List.map_id a]
  exact List.map_congr_left fun e _=>by simp
 have j:=Any.strings_Join shJoi shJoiX n t g (a.map fun e=>(⟨e.toArray⟩:ByteArray)) ⟨#[32]⟩ d (fun m e b=>q m _ (by
  rw [zAf] at b⊢;cases k:a[m]? with
  | none=>rw [k] at b;cases b
  | some x=>
    rw [k] at b;injection b with b;subst b;rfl)) p (by rw [zBc];omega) (by rw [zBc];omega) (by rw [f];exact r)
 rw [f,zBc,s] at j;exact j
def aGo:(prog.info? 9).map (fun a=>(a.zero.map (·.cells.size),a.size,a.bytes))=some (some 1,1,16):=by kernel_rfl
def aEQ:∃b c,prog.info? 9=some b/\b.zero=some c/\b.size=1/\b.bytes=16/\c.cells.size=1:=by
 have a:=aGo;cases e:prog.info? 9 with
 | none=>rw [e] at a;cases a
 | some b=>
   rw [e] at a;cases d:b.zero with
   | none=>simp [d] at a
   | some c=>
     simp [d] at a;exact ⟨b,c,rfl,d,a.2.1,a.2.2,a.1⟩
def aEl (c:List (List UInt8)) (b:Nat) (j:∀f∈c,f.length<=b):(Lib.join c [32]).length<=c.length*(b+1):=by
 cases c with
 | nil=>simp [Lib.join]
 | cons f o=>
   rw [Lib.join_cons];have m:∀a:List (List UInt8),(∀g∈a,g.length<=b)->(Lib.joinTail [32] a).length<=a.length*(b+1):=by
    intro a
    induction a with
    | nil=>intro _;simp [Lib.joinTail]
    | cons g a n=>
      intro k;have d:=n fun i e=>k i (by simp [e]);have l:=k g (by simp);unfold Lib.joinTail at d⊢;rw [List.map_cons,List.flatten_cons,zAi,zCf,Nat.add_mul];simp only [zAi,zCf,List.length_nil] at d⊢;omega
   have d:=m o fun i e=>j i (by simp [e]);have l:=j f (by simp);rw [zAi,zCf,Nat.add_mul];omega
def lD:∀(a b:Nat),a < 10 ^(b+1)->(Lib.decDigits a).length<=b+1
 | a,0,h=>by rw [Lib.decDigits,dif_pos (by simpa using h)];simp
 | a,b+1,h=>by
   rw [Lib.decDigits];split
   · simp
   have:=lD (a / 10) b (by rw [Nat.pow_succ] at h;omega);rw [zAi];simp only [zCf,List.length_nil];omega
def aEm (a:Int) (b:-9223372036854775808<=a) (c:a<=9223372036854775807):(Lib.itoa a).length<=20:=by
 unfold Lib.itoa;split;have:=lD a.natAbs 18 (by simp only [Nat.reduceAdd,Nat.reducePow];omega);rw [zCf];omega;have:=lD a.toNat 18 (by simp only [Nat.reduceAdd,Nat.reducePow];omega);omega
def zv (a:Int):Value:=.int .i64 a
def dZ (z:Option Addr) (f W:Nat) (c:List Int) (d:World) (x:Rd d d.heap.size 1 z f (c.map zv)) (aj:f<=100000) (p:∀b∈c,-9223372036854775808<=b/\b<=9223372036854775807) (D:TabD d):
 Calls prog 8 #[.slice z f W] d fun n ae=>n=.returned (eJ (cU c))/\Below d.heap.size d ae:=by
 obtain ⟨ab,af,a1,a7,a8,a9,aa⟩:=aEQ;have I:c.length=f:=by simpa using x.1
 obtain ⟨l,S,u,q⟩:=hqq4 I x p D;clear x p D I;go_enter func8,ntmps8;go_wp2_with fail;go_loopw [3,8] (fun ad y wr=>∃a:Nat,a<=f/\y=.int .i64 (a:Int)/\wr.ownsRow d.heap.size 9 1 ad a (((c.take a).map Lib.itoa).map eJ)/\Below d.heap.size d wr) (fun _ y _=>f -(intOf y).toNat)
 case atStart=>exact ⟨0,by omega,rfl,World.ownsRow_nil _ _ _ _,Below.refl _ _⟩
 case round=>
  obtain ⟨a,ai,rfl,k,e⟩:=hrel;by_cases a3:a < f
  · obtain ⟨V,ac,rfl,ah,E⟩:=(S.out.below e).2 oM;obtain ⟨b,s⟩:∃b,c[a]?=some b:=⟨_,zAa (by rw [l.out];exact a3)⟩;have Y:wr.cell? ⟨V,ac+a,none⟩=some (.int .i64 b):=E a _ (by rw [zAf,s];rfl);have P:=u.out b (zAd s);have o:=e.size;have N:=(q.out.below e q.out.tab.pos q.out.low.2 q.out.low.1).pow;have F:=aHL b wr P.1 P.2 N;have M:(c.take (a+1)).map Lib.itoa=(c.take a).map Lib.itoa++ [Lib.itoa b]:=(by rw [zAv,s];simp);have ak:(a:Int) < (f:Int):=oM;obtain ⟨A,B,i,m,T⟩:=hqq5 F k e o M;clear F k e o N E s M;go_wp2_with fail;refine A.out.mono ?_;rintro n w1 ⟨rfl,g⟩;have w:Below w1.heap.size w1 (w1.alloc (.cells #[eJ (Lib.itoa b)] 9)):=bR.alloc nL _;have K:=aQ (aQ B.out g) w;have j:=(i.out.trans (g.mono m.out)).trans (w.mono (zAk m.out g.size));obtain ⟨C,t⟩:=hqq2 K j;have L:=lhd (show d.heap.size<=(w1.alloc (.cells #[eJ (Lib.itoa b)] 9)).heap.size from j.size);clear K j g w B i m A Y;go_wp2_with (at_builtin;refine bQ _ rfl (.tmp 12) (.tmp 15) _ rfl d.heap.size 9 ab af 1 16 underlying26 a1 a7 a8 a9 aa dC u3 a _ rfl C.out _ _ 1 1 _ rfl (aBm (Bk.new w1 9 #[eJ (Lib.itoa b)]) rfl) (by simp [Value.oneCell',eJ]) (by unfold maxLen;omega) oM L.out ?_;intro al am a5 a0 ag);have Z:=bG t.out C.out a0 L.out;go_roundw
    case rel=>refine ⟨a+1,by omega,by go_num,?_,Z⟩;rw [T.out,zAz];exact a5
    case measure=>simp [intOf];omega
  · have a2:a=f:=oM;subst a2;rw [zAg (by rw [l.out];omega)] at k;obtain ⟨Q,X,rfl,r⟩:=aU k;have o:=e.size;rcases zBa a with v | v
    · subst v;have a4:c= []:=zBk l.out;have i:=lhd e;clear k r e;go_wp2_with fail;go_ret;exact ⟨by rw [a4];rfl,i.out⟩
    · have J:c≠ []:=fun n=>by have:=l.out;rw [n] at this;simp at this;omega
      have G:=aEl (c.map Lib.itoa) 20 (fun an a6=>by
       obtain ⟨b,p,rfl⟩:=zAy.1 a6;exact aEm b (u.out b p).1 (u.out b p).2)
      rw [zBc,l.out] at G;have H:=aHK Q a X (c.map Lib.itoa) wr r.rd v r.cap oM oM;have k0:((a:Int)==0)=false:=(by rw [zCb];omega);have O:cU c=Lib.join (c.map Lib.itoa) [32]:=(by unfold cU;rw [zBw J]);obtain ⟨R,i,m,U⟩:=hqq4 H e o O;clear H e o k r G J O;go_wp2_with fail;refine R.out.mono ?_;rintro n w1 ⟨rfl,g⟩;have j:=i.out.trans (g.mono m.out);have t:=lhd j;clear g j;go_wp2_with fail;go_ret;exact ⟨by rw [U.out];rfl,t.out⟩
def nY (e:Nat) (c:Option Addr) (a d:Nat) (n:List Value) (g:Option Addr) (i l:Nat) (b:World) (j:b.ownsRow e 3 1 (.slice c a d) a n) (k:Rd b b.heap.size 1 g 1 [sv l]) (r:e<=b.heap.size) (B:a<=1000000):
 Calls prog 62 #[.slice c a d,(a:Int),.slice g 1 i] b fun q m=>∃f,q=.returned f/\m.ownsRow e 3 1 f (a+1) (n++ [sv l])/\b.grownBy m (Value.slice c a d).ownBlock/\(f.ownBlock=(Value.slice c a d).ownBlock∨f.ownBlock=some b.heap.size):=by
 obtain ⟨z,u,w,x,y⟩:=info_parts iA;have C:=uG (P:=prog) 48 3 1 underlying48 Tryz.sizeOf3 c a d a nL;obtain ⟨o,p⟩:=hqq2 j k;clear j k;go_enter func62,ntmps62;go_wp2_with (at_builtin;refine bQ _ rfl (.tmp 23) (.tmp 24) _ rfl e 3 z (.int .i64 0) 1 8 underlying48 u w x y rfl dC (.slice c a d) a _ rfl o.out b.heap.size g 1 i _ rfl p.out (by simp [Value.oneCell',sv]) (by unfold maxLen;omega) oM r ?_;intro A D v t s);go_ret;exact ⟨A,rfl,v,t,s⟩
def aDI (b:Nat) (a:Array Value):Value->World->Prop:=fun _ c=>Bk c b 292 a
def vM (c:Nat) (b:Array Value):Stb (aDI c b):=fun _ _ _ a d=>Bk.below a d (Bk.lt a)
def mG (a:Int) (b c:Nat):Array Value:=#[.int .i64 a,.int .u64 (b:Int),.int .u64 (c:Int)]
def vO (d:Int) (b c a:Nat) (e:a < 2):(mG d b c)[1+a]?=some (.int .u64 (((if a=0 then b else c):Nat):Int)):=by
 obtain rfl | rfl:a=0∨a=1:=oM;rfl;rfl
def vN (c:Int) (d e b a:Nat) (f:a < 2):(mG c d e).setIfInBounds (1+a) (.int .u64 (b:Int))=mG c (if a=0 then b else d) (if a=0 then e else b):=by
 obtain rfl | rfl:a=0∨a=1:=oM;rfl;rfl
def zE {e:World} {a:Nat} {g:Int} {c d:Nat} (f:Bk e a 292 (mG g c d)) (b:Int):Bk (e.setCell a (.int .i64 b)) a 292 (mG b c d):=f.set 0 _
structure InsI (l l':List Bool) (k:Nat) (b:Bool) (i a:Nat) (bb:Bool) (u0 u1:Nat):Prop where
 at0:i=0->k < 64/\a=k/\bb=b/\u0=w0 l/\u1=w1 l
 at1:i=1->a < 64/\u0=w0 l'/\pK u1 a bb=w1 l'/\u1 < 18446744073709551616
 at2:i=2->u0=w0 l'/\u1=w1 l'
 le:i<=2
def tE (b:Nat) (d:List Bool) (e:Nat) (c:Bool) (t:World) (a3:Bk t b 292 (gK d)) (aC:d.length<=127) (H:e<=d.length):
 Calls prog 291 #[b,(e:Int),.bool c] t fun n ab=>n=.returned (.int .i64 0)/\Bk ab b 292 (gK (aM d e c))/\Keep (fun c=>c=b) t ab:=by
 obtain ⟨k,U⟩:=eqx d.length;have a7:(aM d e c).length=k+1:=by rw [fG _ _ H,U]
 have E:Bk t b 292 (mG (k:Int) (w0 d) (w1 d)):=by rw [<-U];exact a3
 have a5:∀M,Bk M b 292 (mG ((k+1:Nat):Int) (w0 (aM d e c)) (w1 (aM d e c)))->Bk M b 292 (gK (aM d e c)):=fun M r=>by unfold gK;rw [a7];exact r
 have Z:=lS d;have P:=lP d oM;have aE:∃K z:Nat,(e:Int)/ 64=(K:Int)/\(e:Int)% 64=(z:Int)/\InsI d (aM d e c) e c K z c (w0 d) (w1 d):=by by_cases an:e < 64;exact ⟨0,e,by omega,by omega,fun _=>⟨an,rfl,rfl,rfl,rfl⟩,fun n=>by omega,fun n=>by omega,by omega⟩;obtain ⟨O,C⟩:=aIV d e c H oM oM;exact ⟨1,e - 64,by omega,by omega,fun n=>by omega,fun _=>⟨by omega,O.symm,C.symm,P⟩,fun n=>by omega,by omega⟩
 have a8:∀a o i f g,a < 2->InsI d (aM d e c) e c a o i f g->o < 64/\(if a=0 then f else g) < 18446744073709551616/\InsI d (aM d e c) e c (a+1) 0 ((if a=0 then f else g).testBit 63) (if a=0 then pK f o i else f) (if a=0 then g else pK g o i):=by intro a o i f g aS r;obtain rfl | rfl:a=0∨a=1:=oM;obtain ⟨B,rfl,rfl,rfl,rfl⟩:=r.at0 rfl;obtain ⟨O,C⟩:=aIU d o i H oM B;have ay:(w0 d).testBit 63=d.getD 63 false:=(by rw [iJ];simp);simp only [if_true,ay];exact ⟨B,Z,fun n=>by omega,fun _=>⟨by omega,O.symm,C.symm,P⟩,fun n=>by omega,by omega⟩;obtain ⟨B,ao,ap,aq⟩:=r.at1 rfl;simp only [show ¬((1:Nat)=0) by omega,if_false];exact ⟨B,aq,fun n=>by omega,fun n=>by omega,fun _=>⟨ao,ap⟩,by omega⟩
 obtain ⟨K,z,aT,aO,a0⟩:=aE;have aB:¬((e:Int) > (k:Int)):=oM;have aA:decide ((e:Int) < 0)=false:=by simp
 have aV:((k:Int)==128)=false:=by rw [zCb];omega
 have A:t.cell? b=some (.int .i64 (k:Int)):=(E.cell 0).trans rfl;have aP:=E.lt;have aW:k<=127:=oM;obtain ⟨ae,ai,al,ac⟩:=hqq4 E a5 a8 a0;clear a3 E a5 Z P a8 a0 a7 U aC H;go_enter func291,ntmps291;go_wp2_with fail;clear A aA aB;go_loopw [2,7,8] (fun j l X wr=>∃(a o:Nat) (i:Bool) (f g:Nat),j=.bool i/\l=.int .i64 (o:Int)/\X=.int .i64 (a:Int)/\InsI d (aM d e c) e c a o i f g/\Bk wr b 292 (mG (k:Int) f g)/\Keep (fun c=>c=b) t wr) (fun _ _ X _=>2 -(intOf X).toNat)
 case atStart=>exact ⟨K,z,c,_,_,rfl,rfl,rfl,ac.out,ae.out,Keep.refl _ _⟩
 case round=>
  obtain ⟨a,s,i,f,g,rfl,rfl,rfl,u,q,I⟩:=hrel;by_cases T:a < 2
  · obtain ⟨aD,a9,Q⟩:=al.out a s i f g T u;have G:=vO (k:Int) f g a T;have V:=fun l=>vN (k:Int) f g l a T;obtain ⟨j,x⟩:∃j,(if a=0 then f else g)=j:=⟨_,rfl⟩;obtain ⟨l,J⟩:=eqx (pK j s i);obtain ⟨N,a4⟩:=eqx (mG (k:Int) f g)
    have a1:InsI d (aM d e c) e c (a+1) 0 (j.testBit 63) (if a=0 then l else f) (if a=0 then g else l):=by
        have aw:(if a=0 then pK f s i else f)=if a=0 then l else f:=by
         split
         · rw [<-J,<-x,zBx (by assumption)]
         rfl
        have ax:(if a=0 then g else pK g s i)=if a=0 then g else l:=by
         split;rfl
         · rw [<-J,<-x,zBw (by assumption)]
        rw [x,aw,ax] at Q;exact Q
    rw [x] at G a9;rw [a4] at G V q;have aU:(a:Int) < 2:=oM;obtain ⟨Y,ak,ah,am,ad,L⟩:=hqq6 G V q J a1 I;clear u Q q I G V x J a4 a1;go_wp2_with fail;refine wp_region_any kR ?_;refine bX [38,39,40,41,42,43,44,45,46,47,48,37,49,50,51,52,53,2] (fun c=>c=b) 17 [7,17] (fun w1=>Bk w1 b 292 N) (aDI b (N.setIfInBounds (1+a) (.int .u64 (l:Int)))) [is b,is (a:Int),is b,is (a:Int),is b,is (.pointer (some ⟨b,1,none⟩)),is (.pointer (some ⟨b,1+a,none⟩)),is (.int .u64 (j:Int)),is (s:Int),is (.bool i),is (.tuple #[.int .u64 (l:Int),.bool (j.testBit 63)]),is (.tuple #[.int .u64 (l:Int),.bool (j.testBit 63)]),is (.int .u64 (l:Int)),is (.bool (j.testBit 63)),is b,is (.pointer (some ⟨b,1,none⟩)),is (.pointer (some ⟨b,1+a,none⟩)),dF,is (.bool (j.testBit 63))] _ _ rfl kR kR (ah.out) (fun w1 aY r _ az=>Bk.below r az r.lt) (vM _ _) tA1 ?_ ?_
    · refine aR ?_;refine pH3 0 (.pointer (some b)) ?_;refine pH3 8 (.int .i64 (a:Int)) ?_;refine pH3 0 (.pointer (some b)) ?_;refine pH3 8 (.int .i64 (a:Int)) ?_;refine pV3 2 40 ?_;refine pV3 4 42 ?_;refine pW3 5 43 3 41 ?_;refine sC3 (fun _ y _ R _ _ _ m _ _ _ v=>?_) ?_
      · have w:=R rfl;have aG:_=_:=m 6 44 kR rfl;have A:y.cell? ⟨b,1+a,none⟩=some (.int .u64 (j:Int)):=(w.cell (1+a)).trans Y.out;go_simp;exact kq v rfl
      refine pH3 7 (.int .i64 (s:Int)) ?_;refine pH3 2 (.bool i) ?_;refine sC3 (fun _ y _ _ _ _ _ m _ _ _ v=>?_) ?_
      · have aI:_=_:=m 7 45 kR rfl;have aJ:_=_:=m 8 46 kR rfl;have aK:_=_:=m 9 47 kR rfl;go_simp;refine (aHP j s i a9 aD y).mono ?_;rintro n aZ ⟨rfl,rfl⟩;rw [am.out];exact kq v rfl
      refine pV3 10 48 ?_;refine pV3 11 37 ?_;refine pV3 11 37 ?_;refine pV3 0 38 ?_;refine pV3 14 51 ?_;refine pW3 15 52 1 39 ?_;refine sC3 (fun _ y _ R _ _ _ m _ _ _ v=>?_) ?_
      · have w:=R rfl;have aN:_=_:=m 16 53 kR rfl;have aL:_=_:=m 12 49 kR rfl;have A:y.cell? ⟨b,1+a,none⟩=some (.int .u64 (j:Int)):=(w.cell (1+a)).trans Y.out;have av:=w.frozen (1+a);go_simp;exact v (.bool true) _ (bC (Keep.setCell (F:=fun c=>c=b) (Keep.refl _ _) (p:=⟨b,1+a,none⟩) (.inl rfl) _)) (w.set (1+a) _)
      refine pV3 13 50 ?_;exact aH
    · intro au W D m a2;replace D:Keep (fun c=>c=b) wr W:=kD D;have ar:au (.tmp 2)=.bool (j.testBit 63):=m 18 2 rfl;obtain ⟨aX,aa⟩:∃aF,(aDI b (N.setIfInBounds (1+a) (.int .u64 (l:Int)))) aF W:=a2 17 dC;simp only [zqq];rw [ar];clear m a2;have S:Bk W b 292 _:=aa;rw [ak.out] at S;have a6:=L.out.trans D;obtain ⟨ag,aj⟩:=hqq2 S a6;clear S a6 aa D;go_wp2_with fail;go_roundw
      case rel=>exact ⟨a+1,0,_,_,_,rfl,rfl,by go_num,ad.out,ag.out,aj.out⟩
      case measure=>simp [intOf];omega
  · obtain rfl:a=2:=(by have:=u.le;omega);obtain ⟨rfl,rfl⟩:=u.at2 rfl;have A:wr.cell? b=some (.int .i64 (k:Int)):=(q.cell 0).trans rfl;have av:=q.frozen 0;have aQ:=q.lt;obtain ⟨af,L⟩:=hqq2 q I;clear q I u;have C:IntKind.i64.wrap ((k:Int)+1)=((k+1:Nat):Int):=(by rw [IntKind.wrap_i64];omega);go_wp2_with fail;go_ret;exact ⟨rfl,ai.out _ (zE af.out _),Keep.setCell (F:=fun c=>c=b) L.out (p:=b) (.inl rfl) _⟩
def tF (b:Nat) (c:List Bool) (d:Nat) (G:World) (aa:Bk G b 292 (gK c)) (T:c.length<=128) (O:d < c.length):
 Calls prog 285 #[b,(d:Int)] G fun y aC=>y=.returned (.tuple #[.bool (c.getD d false),.int .i64 0])/\Bk aC b 292 (gK (aD c d))/\Keep (fun i=>i=b) G aC:=by
 have au:=rD b c d G aa O;obtain ⟨j,ae⟩:=eqx c.length;have aW:(aD c d).length+1=j:=by rw [cQ _ O,ae]
 have ab:Bk G b 292 (mG (j:Int) (w0 c) (w1 c)):=by rw [<-ae];exact aa
 have aq:∀a3,Bk a3 b 292 (mG ((j:Int) - 1) (w0 (aD c d)) (w1 (aD c d)))->Bk a3 b 292 (gK (aD c d)):=fun a3 C=>by unfold gK;rw [show (((aD c d).length:Nat):Int)=(j:Int) - 1 by omega];exact C
 have an:=lS c;have ao:=lP c T;obtain ⟨t,f,bi,aN,bk,aO,aV⟩:∃t f:Nat,(d:Int)/ 64=(t:Int)/\(d:Int)% 64=(f:Int)/\t < 2/\f < 64/\d=64*t+f:=⟨d / 64,d % 64,by omega,by omega,by omega,by omega,by omega⟩;have aA:t=0->w0 (aD c d)=mE (w0 c) f ((w1 c).testBit 0)/\w1 (aD c d)=mE (w1 c) 0 false/\(w0 c).testBit f=c.getD d false:=fun y=>by have w:d=f:=oM;have m:=aJc c d O T oM;rw [gC,zBq,<-w];refine ⟨m.1,m.2,?_⟩;rw [iJ,zBz oM,Bool.true_and]
 have av:t=1->w0 (aD c d)=w0 c/\w1 (aD c d)=mE (w1 c) f false/\(w1 c).testBit f=c.getD d false:=fun y=>by have w:d - 64=f:=oM;have m:=cut_hi c d O T oM;rw [w] at m;refine ⟨m.1,m.2,?_⟩;rw [gC];congr 1;omega
 have aS:=ab.lt;have bm:j<=128:=oM;have aP:0 < mE 0 0 true:=dC;obtain ⟨ak,aG,aK,aI,aE,aj⟩:=hqq6 ab aq aA av an ao;clear aa ab aq an ao aA av aW ae T O aP aV;go_enter func285,ntmps285;go_wp2_with fail;refine au.mono ?_;rintro y b2 ⟨rfl,ac⟩;have ap:=ak.out.below ac aS;have az:Keep (fun i=>i=b) G b2:=Keep.of_below ac;obtain ⟨aF,aJ⟩:=hqq2 ap az;clear au ac ap az ak;go_wp2_with fail;go_loopw [7,8] (fun e ai wr=>∃(a u:Nat) (v:Bool),e=.bool v/\ai=.int .i64 (a:Int)/\t<=a/\a < 2/\(a=1->v=false/\u=w1 c)/\(a=0->v=(w1 c).testBit 0/\u=mE (w1 c) 0 false)/\Bk wr b 292 (mG (j:Int) (w0 c) u)/\Keep (fun i=>i=b) G wr) (fun _ ai _=>(intOf ai).toNat)
 case atStart=>exact ⟨1,w1 c,false,rfl,rfl,by omega,by omega,fun _=>⟨rfl,rfl⟩,fun y=>by omega,aF.out,aJ.out⟩
 case round=>
  obtain ⟨a,u,v,rfl,rfl,bj,ax,m,a9,H,S⟩:=hrel;by_cases ar:t < a
  · obtain rfl:a=1:=oM;obtain ⟨rfl,rfl⟩:=m rfl;obtain rfl:t=0:=oM;obtain ⟨a,aw⟩:∃a,a=1:=⟨1,rfl⟩;have l:=vO (j:Int) (w0 c) (w1 c) a oM;have q:=fun k=>vN (j:Int) (w0 c) (w1 c) k a oM;rw [zBw oM] at l;obtain ⟨e,U⟩:=eqx (w1 c);obtain ⟨k,E⟩:=eqx (mE e 0 false);obtain ⟨B,N⟩:=eqx (mG (j:Int) (w0 c) (w1 c));have V:=aj.out;rw [N] at l q H;rw [U] at l V;have aB:mE (w1 c) 0 false=k:=(by rw [U];exact E);obtain ⟨I,af⟩:=eqx (e.testBit 0);have M:(w1 c).testBit 0=I:=(by rw [U];exact af);have aL:=lhd af;have aU:(a:Int) < 2:=oM;obtain ⟨J,a1,Y,a2,aM,W,Z⟩:=hqq7 l q H E aB M S;have bl:a < 2:=oM;have ay:¬a=0:=oM;have aT:¬(a:Int)<=0:=oM;rw [show ((1:Nat):Int)=(a:Int) by omega];have al:=lhd aw;have be:¬(a:Int)<=0:=aT;have bf:(a:Int) > 0:=oM;clear H S l q U E aB N m a9 M aw ar af;go_wp2_with fail;refine wp_region_any kR ?_;refine bX [22,23,24,25,26,27,28,29,30,31,21,32,33,34,35,36,7] (fun i=>i=b) 16 [7,16] (fun w1=>Bk w1 b 292 B) (aDI b (B.setIfInBounds (1+a) (.int .u64 (k:Int)))) [is b,is (a:Int),is b,is (a:Int),is b,is (.pointer (some ⟨b,1,none⟩)),is (.pointer (some ⟨b,1+a,none⟩)),is (.int .u64 (e:Int)),is (.bool false),is (.tuple #[.int .u64 (k:Int),.bool I]),is (.tuple #[.int .u64 (k:Int),.bool I]),is (.int .u64 (k:Int)),is (.bool I),is b,is (.pointer (some ⟨b,1,none⟩)),is (.pointer (some ⟨b,1+a,none⟩)),dF,is (.bool I)] _ _ rfl kR kR (Y.out) (fun w1 b0 C _ ad=>Bk.below C ad C.lt) (vM _ _) tA1 ?_ ?_
    · refine aR ?_;refine pH3 0 (.pointer (some b)) ?_;refine pH3 8 (.int .i64 (a:Int)) ?_;refine pH3 0 (.pointer (some b)) ?_;refine pH3 8 (.int .i64 (a:Int)) ?_;refine pV3 2 24 ?_;refine pV3 4 26 ?_;refine pW3 5 27 3 25 ?_;refine sC3 (fun _ r _ D _ _ _ g _ _ _ n=>?_) ?_
      · have o:=D rfl;have b3:_=_:=g 6 28 kR rfl;have R:r.cell? ⟨b,1+a,none⟩=some (.int .u64 (e:Int)):=(o.cell (1+a)).trans J.out;go_simp;exact kq n rfl
      refine pH3 7 (.bool false) ?_;refine sC3 (fun _ r _ _ _ _ _ g _ _ _ n=>?_) ?_
      · have b4:_=_:=g 7 29 kR rfl;have b5:_=_:=g 8 30 kR rfl;go_simp;refine (aCH e 0 false V oM r).mono ?_;rintro y b1 ⟨rfl,rfl⟩;rw [a2.out,aL.out];exact kq n rfl
      refine pV3 9 31 ?_;refine pV3 10 21 ?_;refine pV3 10 21 ?_;refine pV3 0 22 ?_;refine pV3 13 34 ?_;refine pW3 14 35 1 23 ?_;refine sC3 (fun _ r _ D _ _ _ g _ _ _ n=>?_) ?_
      · have o:=D rfl;have b7:_=_:=g 15 36 kR rfl;have b6:_=_:=g 11 32 kR rfl;have R:r.cell? ⟨b,1+a,none⟩=some (.int .u64 (e:Int)):=(o.cell (1+a)).trans J.out;have am:=o.frozen (1+a);go_simp;exact n (.bool true) _ (bC (Keep.setCell (F:=fun i=>i=b) (Keep.refl _ _) (p:=⟨b,1+a,none⟩) (.inl rfl) _)) (o.set (1+a) _)
      refine pV3 12 33 ?_;exact aH
    · intro a8 A x g L;replace x:Keep (fun i=>i=b) wr A:=kD x;have a7:a8 (.tmp 7)=.bool I:=g 17 7 rfl;obtain ⟨aZ,Q⟩:∃ah,(aDI b (B.setIfInBounds (1+a) (.int .u64 (k:Int)))) ah A:=L 16 dC;simp only [zqq];rw [a7];clear g L;have s:Bk A b 292 _:=Q;rw [a1.out,zBw ay,zBw ay] at s;have P:=Z.out.trans x;obtain ⟨X,a0⟩:=hqq2 s P;have K:IntKind.i64.wrap ((a:Int) - 1)=((0:Nat):Int):=(by have:=al.out;rw [IntKind.wrap_i64];omega);clear s P Q x;go_wp2_with fail;go_roundw
      case rel=>exact ⟨0,_,_,rfl,rfl,by omega,by omega,fun y=>by omega,fun _=>⟨W.out.symm,aM.out.symm⟩,X.out,a0.out⟩
      case measure=>have:=al.out;simp [intOf];omega
  · obtain rfl:a=t:=oM
    have aQ:∃e:Nat,(mG (j:Int) (w0 c) u)[1+a]?=some (.int .u64 (e:Int))/\e < 18446744073709551616/\(mG (j:Int) (w0 c) u).setIfInBounds (1+a) (.int .u64 ((mE e f v:Nat):Int))=mG (j:Int) (w0 (aD c d)) (w1 (aD c d))/\e.testBit f=c.getD d false:=by
        have l:=vO (j:Int) (w0 c) u a ax;have q:=fun k=>vN (j:Int) (w0 c) u k a ax;obtain z | z:a=0∨a=1:=oM
        · obtain ⟨K,w⟩:=a9 z;obtain ⟨a4,a5,a6⟩:=aK.out z;rw [zBx z] at l;refine ⟨w0 c,l,aE.out,?_,a6⟩;rw [q,zBx z,zBx z,a4,a5,K,w]
        · obtain ⟨K,w⟩:=m z;obtain ⟨a4,a5,a6⟩:=aI.out z;have ag:¬a=0:=oM;rw [zBw ag] at l;refine ⟨u,l,by rw [w];exact aj.out,?_,by rw [w];exact a6⟩;rw [q,zBw ag,zBw ag,a4,a5,K,w]
    obtain ⟨e,l,V,q,M⟩:=aQ;obtain ⟨bp,aY⟩:=eqx f;subst aY;have aX:=aO;obtain ⟨k,E⟩:=eqx (mE e f v);obtain ⟨B,N⟩:=eqx (mG (j:Int) (w0 c) u);rw [E] at q;rw [N] at l q H;obtain ⟨J,a1,Y,a2,W,Z⟩:=hqq6 l q H E M S;have bg:¬(a:Int) > (a:Int):=oM;have aU:(a:Int) < 2:=oM;have bo:IntKind.i64.wrap (a:Int)=(a:Int):=(by rw [IntKind.wrap_i64];omega);have bn:((d:Int)).tmod 64=(f:Int):=(by rw [Int.tmod_eq_emod_of_nonneg oM];exact aN);clear H S l q E N m a9 M ar;go_wp2_with fail;refine wp_region_any kR ?_;refine bX [38,39,40,41,42,43,44,45,46,47,48,49,50,51,37,52,53,54,55,56,7] (fun i=>i=b) 20 [9,20] (fun w1=>Bk w1 b 292 B) (aDI b (B.setIfInBounds (1+a) (.int .u64 (k:Int)))) [is b,is (d:Int),is (a:Int),is b,is (d:Int),is (a:Int),is b,is (.pointer (some ⟨b,1,none⟩)),is (.pointer (some ⟨b,1+a,none⟩)),is (.int .u64 (e:Int)),is (d:Int),is (f:Int),is (.bool v),is (.tuple #[.int .u64 (k:Int),.bool (e.testBit f)]),is (.tuple #[.int .u64 (k:Int),.bool (e.testBit f)]),is (.int .u64 (k:Int)),is (.bool (e.testBit f)),is b,is (.pointer (some ⟨b,1,none⟩)),is (.pointer (some ⟨b,1+a,none⟩)),dF,is (.bool (e.testBit f))] _ _ rfl kR kR (Y.out) (fun w1 b0 C _ ad=>Bk.below C ad C.lt) (vM _ _) tA1 ?_ ?_
    · refine aR ?_;refine pH3 0 (.pointer (some b)) ?_;refine pH3 1 (.int .i64 (d:Int)) ?_;refine pV3 1 39 ?_;refine pH3 0 (.pointer (some b)) ?_;refine pH3 1 (.int .i64 (d:Int)) ?_;refine pV3 4 42 ?_;refine pV3 3 41 ?_;refine pV3 6 44 ?_;refine pW3 7 45 5 43 ?_;refine sC3 (fun _ r _ D _ _ _ g _ _ _ n=>?_) ?_
      · have o:=D rfl;have b8:_=_:=g 8 46 kR rfl;have R:r.cell? ⟨b,1+a,none⟩=some (.int .u64 (e:Int)):=(o.cell (1+a)).trans J.out;go_simp;exact kq n rfl
      refine pH3 1 (.int .i64 (d:Int)) ?_;refine pV3 10 48 ?_;refine pH3 7 (.bool v) ?_;refine sC3 (fun _ r _ _ _ _ _ g _ _ _ n=>?_) ?_
      · have b9:_=_:=g 9 47 kR rfl;have ba:_=_:=g 11 49 kR rfl;have bb:_=_:=g 12 50 kR rfl;go_simp;refine (aCH e f v V aX r).mono ?_;rintro y b1 ⟨rfl,rfl⟩;rw [a2.out];exact kq n rfl
      refine pV3 13 51 ?_;refine pV3 14 37 ?_;refine pV3 14 37 ?_;refine pV3 0 38 ?_;refine pV3 17 54 ?_;refine pW3 18 55 2 40 ?_;refine sC3 (fun _ r _ D _ _ _ g _ _ _ n=>?_) ?_
      · have o:=D rfl;have bd:_=_:=g 19 56 kR rfl;have bc:_=_:=g 15 52 kR rfl;have R:r.cell? ⟨b,1+a,none⟩=some (.int .u64 (e:Int)):=(o.cell (1+a)).trans J.out;have am:=o.frozen (1+a);go_simp;exact n (.bool true) _ (bC (Keep.setCell (F:=fun i=>i=b) (Keep.refl _ _) (p:=⟨b,1+a,none⟩) (.inl rfl) _)) (o.set (1+a) _)
      refine pV3 16 53 ?_;exact aH
    · intro a8 A x g L;replace x:Keep (fun i=>i=b) wr A:=kD x;have a7:a8 (.tmp 7)=.bool (e.testBit f):=g 21 7 rfl;obtain ⟨aZ,Q⟩:∃ah,(aDI b (B.setIfInBounds (1+a) (.int .u64 (k:Int)))) ah A:=L 20 dC;simp only [zqq];rw [a7];clear g L;have s:Bk A b 292 _:=Q;rw [a1.out] at s;have P:=Z.out.trans x;have R:A.cell? b=some (.int .i64 (j:Int)):=(s.cell 0).trans rfl;have am:=s.frozen 0;have bh:=s.lt;obtain ⟨X,a0⟩:=hqq2 s P;have K:IntKind.i64.wrap ((j:Int) - 1)=(j:Int) - 1:=(by rw [IntKind.wrap_i64];omega);rw [W.out];clear s P Q x;go_wp2_with fail;go_ret2;exact ⟨rfl,aG.out _ (zE X.out _),Keep.setCell (F:=fun i=>i=b) a0.out (p:=b) (.inl rfl) _⟩
def aAL (b:Nat) (d:List Bool) (a:World) (i:TreeAt a b d):
 Calls prog 261 #[b] a fun g j=>g=.returned (.int .i64 ((d.count true:Nat):Int))/\Below a.heap.size a j:=by
 obtain ⟨w,A,⟨rfl,B,c⟩|⟨z,c,y,n,x,e⟩⟩:=i
 · have f:a.cell? ⟨b,2,none⟩=some (.int .i64 (-1)):=(c.cell 2).trans rfl;clear c;go_enter func261,ntmps261;go_wp2;go_ret;exact ⟨rfl,Below.refl _ _⟩
 · obtain ⟨k,l,f,m,o,p,q,r,s,t,u,v⟩:=e.cells;clear e;go_enter func261,ntmps261;go_wp2;go_quiet (fail);go_wp2;go_ret;exact ⟨rfl,⟨rfl,rfl,rfl,zAs _,fun _ _=>rfl⟩⟩
def TabW.visk {a:Nat} {b d:World} (f:TabW b) (j:VisK (fun e=>e=a) b d) (k:7 < a) (i:7 < b.heap.size):TabW d:=
 fun c g=>(j.2.cell (p:=⟨7,c,none⟩) i (by show ¬(7=a);omega)).trans (f c g)
def aHt {a:List Bool} {b:Bool} {c:Nat} (d:a[c]?=some b):(a.take c).count b < a.count b:=by
 have i:=(zAc.1 d).1;have e:a=a.take (c+1)++a.drop (c+1):=(zAu _ _).symm;have f:a.count b=(a.take (c+1)).count b+(a.drop (c+1)).count b:=by rw [<-zCc,zAu]
 have g:(a.take (c+1)).count b=(a.take c).count b+1:=by rw [zAv,d,zCc];simp
 omega
def vY (c:Nat) (a:List Bool) (d f:Nat) (b:Bool) (g:World) (l:TreeAt g c a) (w:a[d]?=some b) (v:(a.take d).count b=f) (A:TabW g) (an:7 < c):
 Calls prog 219 #[c,(f:Int),.bool b] g fun i aA=>i=.returned (.int .i64 (d:Int))/\VisK (fun b=>b=c) g aA:=by
 have Y:a.length<=128:=by
  obtain ⟨T,x,⟨rfl,az,m⟩|⟨u,m,V⟩⟩:=l
  · simp
  exact m
 have ar:=(zAc.1 w).1;have a1:=aHt w;rw [v] at a1;have a0:=oO a;have av:∃s,Bk g c 261 s/\3 < s.size:=by obtain ⟨T,x,⟨rfl,az,m⟩|⟨u,m,U,ai,t,V⟩⟩:=l;exact ⟨_,m,by simp⟩;exact ⟨_,V.tree,by simp⟩
 obtain ⟨s,q,am⟩:=av;have ax:7 < g.heap.size:=A.pos;have G:=VisK.set_tree q 0;have a3:=l.vis G.1;have aT:=q.lt;have R:g.cell? ⟨c,3,none⟩=some s[3]:=by rw [q.cell 3];simp [am]
 have S:=q.frozen 3;obtain ⟨k,z⟩:=eqx a.length;obtain ⟨j,E⟩:=eqx (a.count true);rw [z,E] at a0;have a2:f < (if b then j else k - j):=by cases b;simp;omega;simp;omega
 have ak:k<=128:=oM;have aq:j<=k:=oM;have aW:f<=128:=by rw [<-v];exact zAk zBv (by rw [zAj];omega)
 have aZ:d<=128:=oM;obtain ⟨a6,F⟩:=eqx ((if b then j else k - j));rw [F] at a2;obtain ⟨L,y,aF,P,a8,O,ae,af,ag⟩:=hqq9 G l Y a3 z w v E F;obtain ⟨a9,aG⟩:=hqq2 A a2;clear l Y G a3 q z ar a1 a0 w v E F A;go_enter func219,ntmps219;go_wp2_with fail;clear R S;refine (fT c a _ P.out).mono ?_;rintro i b1 ⟨rfl,n⟩;rw [a8.out];have H:=L.out.below n;have a4:=y.out.vis H.1;obtain ⟨M,Q⟩:=hqq2 H a4;clear H a4 L P n;go_wp2_with fail;refine (aAL c a _ Q.out).mono ?_;rintro i b2 ⟨rfl,W⟩;rw [af.out];have I:=M.out.below W;have a5:=y.out.vis I.1;obtain ⟨N,ah⟩:=hqq2 I a5;clear I a5 M Q W;go_wp2_with fail;refine (uU k j b _ ak aq).mono ?_;rintro i aB ⟨rfl,X⟩;rw [ag.out];have J:=N.out.below X;have au:=y.out.vis J.1;have ap:¬a6<=f:=oM;have aY:decide (a6<=f)=false:=zBy ap;obtain ⟨T,x,⟨C,_,_⟩|⟨C,n,U,ai,t,e⟩⟩:=au
 · have u:=O.out;rw [C] at u;simp at u
 obtain ⟨aH,aI,aJ,R,aK,aL,aM,aN,aO,aP,aQ,aR⟩:=e.cells;have aX:=e.row.lt;have aU:=e.tree.lt;have aV:c≠U:=e.row.bk_ne e.tree dC;have S:=e.tree.frozen 3;obtain ⟨r,a7,ab⟩:=hqq3 e n J;clear e n C J X N ah;go_wp2_with fail;go_loopw [1,7,8] (fun aC aD aE wr=>aC=.int .i64 (f:Int)/\aD=.int .i64 0/\aE=.int .i64 0/\wr=aB) (fun _ _ _ _=>0)
 case atStart=>exact ⟨rfl,rfl,rfl,rfl⟩
 case round=>
  obtain ⟨rfl,rfl,rfl,rfl⟩:=hrel;go_wp2_with fail;refine (uU 0 0 b _ oM nL).mono ?_;rintro i b3 ⟨rfl,o⟩;have aj:(if b=true then 0 else 0 - 0:Nat)=0:=by cases b <;> rfl
  rw [aj];have ao:=Bk.ne r.out.blk r.out.tree dC;have K:=(VisK.set_tree r.out.tree (wrap64 (x+1))).alloc (.cells #[.int .i64 (-1),.int .i64 (-1),.int .i64 0,(a.length:Int),.int .i64 ((a.count true:Nat):Int),.int .i64 0,.int .i64 0,t] 271);have ay:=K.below o;have D:=(r.out.blk.far (p:=⟨c,3,none⟩) ao (.int .i64 (wrap64 (x+1)))).alloc (.cells #[.int .i64 (-1),.int .i64 (-1),.int .i64 0,(a.length:Int),.int .i64 ((a.count true:Nat):Int),.int .i64 0,.int .i64 0,t] 271);have Z:=D.below o D.lt;have b0:=o.cell (p:=⟨wr.heap.size,7,none⟩) (by simp [World.setCell]);have B:=((ab.out.trans K).below o);obtain ⟨aa,ac,ad⟩:=hqq3 (a9.out.visk B an ax) B Z;clear ay D Z K B o;go_wp2_with fail;refine (tD t a b d f _ ad.out a7.out O.out ae.out aa.out).mono ?_;rintro i b4 ⟨rfl,al⟩;have aw:=ac.out.below al;have aS:IntKind.i64.wrap (d:Int)=(d:Int):=by rw [IntKind.wrap_i64];omega
  go_wp2_with fail;go_ret;exact ⟨eR oM,aw⟩
def xI:List UInt8:= [48,49,50,51,52,53,54,55,56,57]
def aHm (a:UInt8):xI.contains a=fF a:=by
 rw [Bool.eq_iff_iff];constructor
 · intro c;have d:a∈xI:=(by simpa using c);simp only [xI,List.mem_cons,List.not_mem_nil,or_false] at d;rcases d with rfl | rfl | rfl | rfl | rfl | rfl | rfl | rfl | rfl | rfl <;> rfl
 · intro c;unfold fF at c;rw [zBd] at c;have e:=of_decide_eq_true c.1;have f:=of_decide_eq_true c.2;have b:a.toNat=(48:UInt8).toNat∨a.toNat=(49:UInt8).toNat∨a.toNat=(50:UInt8).toNat∨a.toNat=(51:UInt8).toNat∨a.toNat=(52:UInt8).toNat∨a.toNat=(53:UInt8).toNat∨a.toNat=(54:UInt8).toNat∨a.toNat=(55:UInt8).toNat∨a.toNat=(56:UInt8).toNat∨a.toNat=(57:UInt8).toNat:=(by show a.toNat=48∨a.toNat=49∨a.toNat=50∨a.toNat=51∨a.toNat=52∨a.toNat=53∨a.toNat=54∨a.toNat=55∨a.toNat=56∨a.toNat=57;omega);rcases b with b | b | b | b | b | b | b | b | b | b <;>(rw [UInt8.toNat_inj.1 b];rfl)
def gS {α:Type} (e:α->Bool):∀c:List α,c.dropWhile e= []↔c.all e=true
 | []=>by simp
 | b::c=>by
   rw [List.dropWhile_cons,List.all_cons,zBd];split
   · rename_i d
     rw [gS e c];exact ⟨fun a=>⟨d,a⟩,fun a=>a.2⟩
   · rename_i d
     exact ⟨fun a=>absurd a (by simp),fun a=>absurd a.1 d⟩
def aBe (a:List UInt8):Lib.trimS a xI= []↔a.all fF=true:=by
 have g:(fun f=>xI.contains f)=fF:=funext aHm;unfold Lib.trimS Lib.trimLeftS Lib.trimRightS;rw [g,gS,List.all_reverse];constructor
 · intro b;have c:a.reverse.dropWhile fF= []:=by
    cases e:a.reverse.dropWhile fF with
    | nil=>rfl
    | cons f i=>
      have d:=List.head_dropWhile_not (p:=fF) (l:=a.reverse) (by rw [e];simp);rw [e] at b;simp only [e] at d;rw [List.all_cons,zBd] at b;simp only [List.head_cons] at d;rw [b.1] at d;cases d
   rw [gS,List.all_reverse] at c;exact c
 intro b;have c:a.reverse.dropWhile fF= []:=(by rw [gS,List.all_reverse];exact b);rw [c];rfl
def aHE (a:List UInt8) (b:World) (e:a.length<=100000):
 Calls prog 47 #[.string ⟨a.toArray⟩,.string ⟨#[48,49,50,51,52,53,54,55,56,57]⟩] b fun c d=>c=.returned (eJ (Lib.trimS a xI))/\Below b.heap.size b d:=
 Any.strings_Trim_laid shTri kR ⟨a.toArray⟩ ⟨#[48,49,50,51,52,53,54,55,56,57]⟩ b (by rw [jP];omega) dC (ascii_of_all dC)
def rB (a:List UInt8) (m:World) (y:a.length<=100000):
 Calls prog 21 #[.string ⟨a.toArray⟩] m fun b z=>b=.returned (.tuple #[.int .i64 (((nO a).getD 0:Nat):Int),.bool (nO a).isSome])/\Below m.heap.size m z:=by
 have p:=jP a;obtain ⟨e,l⟩:=eqx a.length;rw [l] at p;have B:=lhd l;have t:=aHE a m y;have j:=lhd t;clear t;obtain ⟨C,c⟩:=eqx ((⟨a.toArray⟩:ByteArray));rw [c] at p j;have A:=lhd c;by_cases D:e < 1
 · have x:a= []:=zBk oM;have d:nO a=none:=(by unfold nO;rw [zBx (.inl x)]);rw [d,c];have q:((e:Int) < 1):=oM;clear c;go_enter func21,ntmps21;go_wp2_with fail;go_ret2;exact ⟨rfl,Below.refl _ _⟩
 by_cases E:6 < e
 · have d:nO a=none:=(by unfold nO;rw [zBx (.inr (.inl oM))]);rw [d,c];have q:¬((e:Int) < 1):=oM;have w:((e:Int) > 6):=oM;clear c;go_enter func21,ntmps21;go_wp2_with fail;go_ret2;exact ⟨rfl,Below.refl _ _⟩
 have q:¬((e:Int) < 1):=oM;have w:¬((e:Int) > 6):=oM;have s:a≠ []:=fun b=>by rw [b] at l;simp at l;omega
 have k:=fun w1=>aHQ a w1 s oM;rw [c] at k;have o:=lhd k;rw [c];cases f:a.all fF with
 | false=>
   have d:nO a=none:=(by unfold nO;rw [zBx (.inr (.inr f))]);have n:Lib.trimS a xI≠ []:=fun b=>by rw [aBe] at b;rw [b] at f;cases f
   have F:(Lib.trimS a xI).isEmpty=false:=(by cases b:Lib.trimS a xI with | nil=>exact absurd b n | cons _ _=>rfl);rw [d];clear c k;go_enter func21,ntmps21;go_wp2_with fail;refine j.out.mono ?_;rintro b w1 ⟨rfl,g⟩;have i:=lhd g;clear g;go_wp2_with fail;go_ret2;exact ⟨rfl,i.out⟩
 | true=>
   have d:nO a=some (aDz a):=(by unfold nO;rw [zBw (by rintro (b | b | b);exact s b;omega;rw [f] at b;cases b)]);have n:Lib.trimS a xI= []:=(aBe a).2 f;rw [n] at j;rw [d];have u:=lhd (fun w1=>o.out w1 f);clear c k o;go_enter func21,ntmps21;go_wp2_with fail;refine j.out.mono ?_;rintro b w1 ⟨rfl,g⟩;have i:=lhd g;clear g;go_wp2_with fail;refine (u.out w1).mono ?_;rintro b G ⟨rfl,r⟩;have v:=lhd (i.out.trans (r.mono i.out.size));clear r;go_wp2_with fail;go_ret2;exact ⟨rfl,v.out⟩
end Go.Proofs.YtcfpmjbojoidoaaGreatDoor
