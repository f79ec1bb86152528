/- Lemmas of the walk. Conditions: each its own. -/
import Derived.Test.YtnmapianpjamnaaGreatDoorPk3
import Derived.Test.YtnmapianpjamnaaGreatDoorPk4
import Derived.Test.YtnmapianpjamnaaGreatDoorPk5
import Derived.Test.YtnmapianpjamnaaGreatDoorProg
import Derived.Test.YtnmapianpjamnaaGreatDoorSht
import Derived.Test.YtnmapianpjamnaaGreatDoorRows
import Derived.Test.YtnmapianpjamnaaGreatDoorShl
set_option linter.all false
set_option maxRecDepth 100000
set_option maxHeartbeats 2000000
open Go.Proofs.Tryz
namespace Go.Proofs.YtnmapianpjamnaaGreatDoor
section
open Go.ChangeShapes Go.WideShapes Go.ChangeAt Go.RowKit
def rF:laidOutB prog=true:=by kernel_rfl
def own:ownKnob prog.godebug=none:=by kernel_rfl
end
section
open Go.RowKit
def sL (d:Nat) (c:List Bool) (b:Nat) (a:World) (e:Bk a d 240 (gQ c)) (j:b < c.length):
 Calls prog 263 #[d,(b:Int)] a fun f g=>f=.returned (.int .i64 0)/\Below a.heap.size a g:=by
 have i:a.cell? d=some (.int .i64 (c.length:Int)):=(e.cell 0).trans rfl;have m:=e.lt;have k:¬(b:Int) < 0:=oM;have l:decide ((b:Int)>=(c.length:Int))=false:=by simp;omega
 clear e;go_enter func263,ntmps263;go_wp2_with fail;go_ret;exact ⟨rfl,Below.refl _ _⟩
def aDl (b:List Bool) (a:Nat):(if a < 64 then w0 b >>> a else w1 b >>>(a - 64))&&& 1=if b.getD a false then 1 else 0:=by
 by_cases d:a < 64
 · rw [zBw d];have:=fJ (b.take 64) a;rw [Nat.and_one_is_mod,Nat.shiftRight_eq_div_pow,<-Nat.toNat_testBit,show (w0 b).testBit a=(b.take 64).getD a false from this];have c:(b.take 64).getD a false=b.getD a false:=(by simp [zAb,zBr,d]);rw [c];cases b.getD a false <;> rfl
 · rw [zBv d];have:=fJ (b.drop 64) (a - 64);rw [Nat.and_one_is_mod,Nat.shiftRight_eq_div_pow,<-Nat.toNat_testBit,show (w1 b).testBit (a - 64)=(b.drop 64).getD (a - 64) false from this];have c:(b.drop 64).getD (a - 64) false=b.getD a false:=(by simp [zAb,zBs,show 64+(a - 64)=a by omega]);rw [c];cases b.getD a false <;> rfl
def yP (b a:Nat) (c:Bool) (i:b < 18446744073709551616) (g:b >>> a&&& 1=if c then 1 else 0):(bits .and .u64 ((b:Int)/ 2 ^ a) 1==1)=c:=by
 have d:=qU b a 1 (2 ^ a) i oM rfl;have e:((2 ^ a:Nat):Int)=(2:Int)^ a:=by push_cast;rfl
 rw [e] at d;have f:bits .and .u64 ((b:Int)/ 2 ^ a) 1=((b >>> a&&& 1:Nat):Int):=d;rw [f,g];cases c <;> rfl
def sM (e:Nat) (b:List Bool) (a:Nat) (i:World) (l:Bk i e 240 (gQ b)) (z:b.length<=128) (y:a < b.length):
 Calls prog 225 #[e,(a:Int)] i fun n A=>n=.returned (.tuple #[.bool (b.getD a false),.int .i64 0])/\Below i.heap.size i A:=by
 have d:=lhd l;have c:=aDl b a;obtain ⟨m,p⟩:=eqx (b.getD a false);rw [p] at c⊢;clear p;have r:=nP b;have b1:=nO b z;have C:=l.lt;clear l;go_enter func225,ntmps225;go_wp2_with fail;refine (sL e b a _ d.out y).mono ?_;rintro n q ⟨rfl,f⟩;have g:=d.out.below f d.out.lt;have s:q.cell? ⟨e,1,none⟩=some (.int .u64 ((w0 b:Nat):Int)):=(g.cell 1).trans rfl;have t:q.cell? ⟨e,2,none⟩=some (.int .u64 ((w1 b:Nat):Int)):=(g.cell 2).trans rfl;have D:=g.lt;by_cases o:a < 64
 · rw [zBw o] at c;have v:(a:Int).tdiv 64=0:=(by rw [Int.tdiv_eq_ediv_of_nonneg oM];omega);have w:(a:Int).tmod 64=(a:Int):=(by rw [Int.tmod_eq_emod_of_nonneg oM];omega);have x:IntKind.u64.wrap (a:Int)=(a:Int):=(by rw [IntKind.wrap_u64];omega);generalize w0 b=u at*
   obtain ⟨k,j⟩:=hqq2 c f;clear f g t d c;go_wp2_with fail;go_ret2;exact ⟨by rw [yP u a m r k.out];rfl,j.out⟩
 · rw [zBv o] at c;have v:(a:Int).tdiv 64=1:=(by rw [Int.tdiv_eq_ediv_of_nonneg oM];omega);have w:(a:Int).tmod 64=((a - 64:Nat):Int):=(by rw [Int.tmod_eq_emod_of_nonneg oM];omega);have x:IntKind.u64.wrap ((a - 64:Nat):Int)=((a - 64:Nat):Int):=(by rw [IntKind.wrap_u64];omega);have B:a - 64 < 64:=oM;generalize w1 b=u at*
   generalize a - 64=k2 at*
   obtain ⟨k,j⟩:=hqq2 c f;clear f g s d c;go_wp2_with fail;go_ret2;exact ⟨by rw [yP u k2 m b1 k.out];rfl,j.out⟩
def TabW (a:World):Prop:=TabAt 0 Lib.deBruijn64tab a
def TabW.below {a:Nat} {c d:World} (e:TabW c) (i:Below a c d) (f:0 < a):TabW d:=fun b g=>(i.cell (p:=⟨0,b,none⟩) f).trans (e b g)
def TabW.pos {a:World} (c:TabW a):0 < a.heap.size:=by
 have d:=c 0 dC;rcases zBe 0 a.heap.size with b | b;exact b
 · exfalso;have:a.heap[0]?=none:=Array.getElem?_eq_none b;simp [World.cell?,this] at d
def aDe (b c:Nat) (g:b < 18446744073709551616) (f:Lib.ctz 64 b=c) (a:World) (e:TabW a):
 Calls prog 291 #[.int .u64 (b:Int)] a fun d i=>d=.returned (.int .i64 (c:Int))/\i=a:=by
 have:=Any7.bits_TrailingZeros64 shTz b g a (fun _=>e);rw [f] at this;exact this
def dS (a m c:Nat) (s:a < 18446744073709551616) (q:a.testBit m=true) (p:aI a m=c) (B:c < aI a 64) (d:World) (j:TabW d) (N:0 < d.heap.size):
 Calls prog 284 #[.int .u64 (a:Int),(c:Int)] d fun n Q=>n=.returned (.int .i64 (m:Int))/\Below d.heap.size d Q:=by
 have A:=aCq (x:=a) s q p;have r:=fun e M=>yN (x:=a) s q (i:=e) M;rw [p] at r;have C:=xG a;have L:=jC a 64;obtain ⟨I,J,u,R,H⟩:=hqq5 A r C B j;clear A r C q p j;have U:decide ((c:Int) < 0)=false:=by simp
 go_enter func284,ntmps284;go_wp2_with fail;refine (eD _ 1 1 _ [a] _ (Rd.made _ _ 1 1 _ rfl) (by simpa using s) oM).mono ?_;rintro n v ⟨rfl,o⟩;have y:Below d.heap.size d v:=by first |(rw [o];exact bR.alloc nL _)|(rw [<-o];exact bR.alloc nL _)
 have E:(([a].map fun a=>aI a 64).sum)=aI a 64:=by simp
 rw [E];obtain ⟨O,D⟩:=eqx (aI a 64);rw [D] at B L⊢;have V:decide ((c:Int)>=(O:Int))=false:=by simp;omega
 clear E D;have t:=lhd y;clear o y;go_wp2_with fail;go_loopw [0,15] (fun P e wr=>∃b:Nat,b<=c/\e=.int .i64 (b:Int)/\P=.int .u64 ((clr a b:Nat):Int)/\wr=v) (fun _ e _=>c -(intOf e).toNat)
 case atStart=>exact ⟨0,zAp _,rfl,rfl,rfl⟩
 case round=>
  obtain ⟨b,X,rfl,rfl,rfl⟩:=hrel;by_cases W:b < c
  · have w:=J.out b oM;have k:=u.out b;have l:clr a (b+1)=clr a b&&&(clr a b - 1):=rfl;obtain ⟨g,f⟩:=eqx (clr a b);rw [f] at w k l⊢;obtain ⟨G,F⟩:=eqx (g - 1);rw [F] at l;have S:IntKind.u64.wrap ((g:Int) - 1)=(G:Int):=(by rw [IntKind.wrap_u64];omega);have T:=uO g G oM oM;have K:=lhd l;clear f F l w k;go_wp2_with fail;go_roundw
    case rel=>exact ⟨b+1,by omega,by go_num,by rw [K.out],by first | rfl | trivial⟩
    case measure=>simp [intOf];omega
  · obtain rfl:b=c:=oM;have k:=u.out b;have z:=I.out;obtain ⟨g,f⟩:=eqx (clr a b);rw [f] at k z⊢;have j:=H.out.below t.out N;clear f;go_wp2_with fail;refine (aDe g m oM z _ j).mono ?_;rintro n Y ⟨rfl,rfl⟩;go_wp2_with fail;go_ret;exact ⟨rfl,t.out⟩
def aBY (a:Nat) (c:a < 18446744073709551616):18446744073709551615 ^^^ a=18446744073709551615 - a:=by
 have e:18446744073709551615=2 ^ 64 - 1:=dC;have f:18446744073709551615 - a=2 ^ 64 -(a+1):=oM;rw [f,e];apply Nat.eq_of_testBit_eq;intro b;rw [Nat.testBit_xor,Nat.testBit_two_pow_sub_one,Nat.testBit_two_pow_sub_succ c];by_cases d:b < 64
 · simp [d]
 · have:a.testBit b=false:=Nat.testBit_lt_two_pow (zAl (show a < 2 ^ 64 from c) (zBo dC (show 64<=b by omega)));simp [d,this]
def aCD (a:Nat) (b:a < 18446744073709551616):bits .xor .u64 IntKind.u64.max (a:Int)=((cT a false:Nat):Int):=by
 have c:IntKind.u64.max=((18446744073709551615:Nat):Int):=dC;rw [c,bits_xor_u64_nat _ _ oM b];congr 1;unfold cT;simp only [Bool.false_eq_true,if_false];exact aBY a b
def nA (k:Nat) (n:List Bool) (m:Bool) (a f:Nat) (e:World) (W:Bk e k 240 (gQ n)) (T:n.length<=128) (ah:n[a]?=some m) (ag:(n.take a).count m=f) (am:TabW e):
 Calls prog 262 #[k,(f:Int),.bool m] e fun w aR=>w=.returned (.int .i64 (a:Int))/\Below e.heap.size e aR:=by
 have au:=(zAc.1 ah).1;have B:0 < e.heap.size:=am.pos;have Y:=sR _ m (nP n);have Z:=sR _ m (nO n T);have aF:=nP n;have aG:=nO n T;have o:=W.cell 0;have O:=W.cell 1;have P:=W.cell 2;have aT:decide ((f:Int) < 0)=false:=by simp
 have aQ:a < n.length:=au;have ai:∀a1:Nat,(([a1].map fun a1=>aI a1 64).sum)=aI a1 64:=fun a1=>by simp
 obtain ⟨N,Q⟩:=eqx (cT (w0 n) m);obtain ⟨z,R⟩:=eqx (cT (w1 n) m);unfold gQ at o O P;obtain ⟨a2,ac⟩:=eqx (w0 n);obtain ⟨a3,ad⟩:=eqx (w1 n);obtain ⟨aN,ae⟩:=eqx n.length;have aJ:=ix0 (a2:Int) (a3:Int);have aK:=ix1 (a2:Int) (a3:Int);rw [Q] at Y;rw [R] at Z;rw [ac] at aF Q;rw [ad] at aG R;rw [ae,ac,ad] at o O P;rw [ae] at aQ;have a5:=lhd am;replace o:e.cell? k=some (.int .i64 (aN:Int)):=o.trans rfl;have r:=W.lt;obtain ⟨A,a4⟩:=hqq2 o T;have aD:f<=a:=by rw [<-ag];exact zAk zBu (by rw [zAj];omega)
 have ax:=lhd aD;clear aD;have ap:=fun x=>aCS (b:=m) T ah ag x;have af:=fun x=>aCT (b:=m) T ah ag x;rw [ac,Q] at ap af;rw [ad,R] at af;obtain ⟨v,aq⟩:=eqx (aI N 64);obtain ⟨av,ar⟩:=eqx (aI z 64);obtain ⟨u,ao⟩:=eqx (f - v);have aC:64<=a->v<=f/\z.testBit (a - 64)=true/\aI z (a - 64)=u/\u < av:=fun x=>by obtain ⟨aV,aU,aA,aP,S,U,al,aB⟩:=af x;rw [aq] at aA;rw [ar] at aB;subst aA;rw [ao] at S;subst S;exact ⟨aP,U,al,aB⟩
 have aH:m=false->bits .xor .u64 IntKind.u64.max (a2:Int)=(N:Int)/\bits .xor .u64 IntKind.u64.max (a3:Int)=(z:Int):=fun an=>by rw [<-Q,<-R,an];exact ⟨aCD a2 aF,aCD a3 aG⟩
 have aE:m=true->N=a2/\z=a3:=fun an=>by rw [<-Q,<-R,an];simp [cT]
 obtain ⟨az,a6,a7,a8,ay,aS,a9⟩:=hqq7 ap aC aq ar ao ae au;clear ap af aC aq ar ao ae ah ag W T am Q R ac ad au;obtain ⟨ab,aa⟩:=hqq2 aH aE;clear aH aE;cases m with
 | true=>
   replace aa:=aa.out rfl;clear ab;go_enter func262,ntmps262;go_wp2_with fail;go_loopw [1,21] (fun a0 L wr=>∃y:Nat,L=.int .i64 (y:Int)/\((y=0/\a0=.int .i64 (f:Int))∨(y=1/\64<=a/\a0=.int .i64 (u:Int)))/\Below e.heap.size e wr) (fun _ L _=>2 -(intOf L).toNat)
   case atStart=>exact ⟨0,rfl,.inl ⟨rfl,rfl⟩,Below.refl _ _⟩
   case round=>
    obtain ⟨y,rfl,(⟨rfl,rfl⟩|⟨rfl,V,rfl⟩),g⟩:=hrel
    all_goals
        obtain ⟨aL,aM⟩:=aa;subst aL;subst aM
    · clear O P aK;have t:=g.size;have G:=(g.cell (p:=k) r).trans o;clear o;go_wp2_with fail;refine (eD _ 1 1 _ [N] _ (Rd.made _ _ 1 1 _ rfl) (by simpa using Y) oM).mono ?_;rintro w F ⟨rfl,l⟩;have c:Below e.heap.size e F:=(by first |(rw [l];exact g.alloc t _)|(rw [<-l];exact g.alloc t _));rw [ai,a7.out];have H:=(c.cell (p:=k) r).trans A.out;clear l G;by_cases x:a < 64
      · obtain ⟨i,j,d⟩:=az.out x;have q:=d;rw [a7.out] at q;have J:f < v:=q;have I:IntKind.i64.wrap (a:Int)=(a:Int):=(by rw [IntKind.wrap_i64];omega);obtain ⟨C,D,E⟩:=hqq3 i j d;clear i j d q;go_wp2_with fail;refine (dS N a f Y C.out D.out E.out _ (a5.out.below c B) (zAl B c.size)).mono ?_;rintro w aj ⟨rfl,K⟩;have s:=c.trans (K.mono c.size);have ak:=(s.cell (p:=k) r).trans A.out;clear H;go_wp2_with fail;go_ret;exact ⟨rfl,s⟩
      · obtain ⟨M,i,j,d⟩:=a6.out oM;have J:¬f < v:=oM;have aO:decide (f < v)=false:=zBx J;have I:IntKind.i64.wrap ((f:Int) -(v:Int))=(u:Int):=(by have:=ay.out;have S:=a4.out;have U:=ax.out;have al:=a9.out;rw [IntKind.wrap_i64];omega);clear M i j d;go_wp2_with fail;go_roundw
        case rel=>exact ⟨1,by go_num,.inr ⟨by first | rfl | trivial,by omega,by go_num⟩,c⟩
        case measure=>simp [intOf]
    · clear O P aJ;have t:=g.size;have G:=(g.cell (p:=k) r).trans o;clear o;go_wp2_with fail;refine (eD _ 1 1 _ [z] _ (Rd.made _ _ 1 1 _ rfl) (by simpa using Z) oM).mono ?_;rintro w F ⟨rfl,l⟩;have c:Below e.heap.size e F:=(by first |(rw [l];exact g.alloc t _)|(rw [<-l];exact g.alloc t _));rw [ai,a8.out];have H:=(c.cell (p:=k) r).trans A.out;clear l G;obtain ⟨M,i,j,d⟩:=a6.out V;have q:=d;rw [<-a8.out] at d;have J:u < av:=q;have I:IntKind.i64.wrap (64+((a - 64:Nat):Int))=(a:Int):=(by have S:=a4.out;have U:=a9.out;rw [IntKind.wrap_i64];omega);obtain ⟨aw,X⟩:=eqx (a - 64);rw [X] at I i j;obtain ⟨C,D,E⟩:=hqq3 i j d;clear M i j d q X V;go_wp2_with fail;refine (dS z aw u Z C.out D.out E.out _ (a5.out.below c B) (zAl B c.size)).mono ?_;rintro w aj ⟨rfl,K⟩;have s:=c.trans (K.mono c.size);have ak:=(s.cell (p:=k) r).trans A.out;clear H;go_wp2_with fail;go_ret;exact ⟨rfl,s⟩
 | false=>
   replace ab:=ab.out rfl;clear aa;go_enter func262,ntmps262;go_wp2_with fail;go_loopw [1,21] (fun a0 L wr=>∃y:Nat,L=.int .i64 (y:Int)/\((y=0/\a0=.int .i64 (f:Int))∨(y=1/\64<=a/\a0=.int .i64 (u:Int)))/\Below e.heap.size e wr) (fun _ L _=>2 -(intOf L).toNat)
   case atStart=>exact ⟨0,rfl,.inl ⟨rfl,rfl⟩,Below.refl _ _⟩
   case round=>
    obtain ⟨y,rfl,(⟨rfl,rfl⟩|⟨rfl,V,rfl⟩),g⟩:=hrel
    all_goals
        obtain ⟨aL,aM⟩:=ab
    · clear O P aK;have t:=g.size;have G:=(g.cell (p:=k) r).trans o;clear o;go_wp2_with fail;refine (eD _ 1 1 _ [N] _ (Rd.made _ _ 1 1 _ rfl) (by simpa using Y) oM).mono ?_;rintro w F ⟨rfl,l⟩;have c:Below e.heap.size e F:=(by first |(rw [l];exact g.alloc t _)|(rw [<-l];exact g.alloc t _));rw [ai,a7.out];have H:=(c.cell (p:=k) r).trans A.out;clear l G;by_cases x:a < 64
      · obtain ⟨i,j,d⟩:=az.out x;have q:=d;rw [a7.out] at q;have J:f < v:=q;have I:IntKind.i64.wrap (a:Int)=(a:Int):=(by rw [IntKind.wrap_i64];omega);obtain ⟨C,D,E⟩:=hqq3 i j d;clear i j d q;go_wp2_with fail;refine (dS N a f Y C.out D.out E.out _ (a5.out.below c B) (zAl B c.size)).mono ?_;rintro w aj ⟨rfl,K⟩;have s:=c.trans (K.mono c.size);have ak:=(s.cell (p:=k) r).trans A.out;clear H;go_wp2_with fail;go_ret;exact ⟨rfl,s⟩
      · obtain ⟨M,i,j,d⟩:=a6.out oM;have J:¬f < v:=oM;have aO:decide (f < v)=false:=zBx J;have I:IntKind.i64.wrap ((f:Int) -(v:Int))=(u:Int):=(by have:=ay.out;have S:=a4.out;have U:=ax.out;have al:=a9.out;rw [IntKind.wrap_i64];omega);clear M i j d;go_wp2_with fail;go_roundw
        case rel=>exact ⟨1,by go_num,.inr ⟨by first | rfl | trivial,by omega,by go_num⟩,c⟩
        case measure=>simp [intOf]
    · clear O P aJ;have t:=g.size;have G:=(g.cell (p:=k) r).trans o;clear o;go_wp2_with fail;refine (eD _ 1 1 _ [z] _ (Rd.made _ _ 1 1 _ rfl) (by simpa using Z) oM).mono ?_;rintro w F ⟨rfl,l⟩;have c:Below e.heap.size e F:=(by first |(rw [l];exact g.alloc t _)|(rw [<-l];exact g.alloc t _));rw [ai,a8.out];have H:=(c.cell (p:=k) r).trans A.out;clear l G;obtain ⟨M,i,j,d⟩:=a6.out V;have q:=d;rw [<-a8.out] at d;have J:u < av:=q;have I:IntKind.i64.wrap (64+((a - 64:Nat):Int))=(a:Int):=(by have S:=a4.out;have U:=a9.out;rw [IntKind.wrap_i64];omega);obtain ⟨aw,X⟩:=eqx (a - 64);rw [X] at I i j;obtain ⟨C,D,E⟩:=hqq3 i j d;clear M i j d q X V;go_wp2_with fail;refine (dS z aw u Z C.out D.out E.out _ (a5.out.below c B) (zAl B c.size)).mono ?_;rintro w aj ⟨rfl,K⟩;have s:=c.trans (K.mono c.size);have ak:=(s.cell (p:=k) r).trans A.out;clear H;go_wp2_with fail;go_ret;exact ⟨rfl,s⟩
def iU:List (String×DataW Unit):= [("math/bits.deBruijn64tab",Rows.laid_math_bits_deBruijn64tab)]
def aDs:prog.globalNamed "math/bits.deBruijn64tab" =some 0:=by kernel_rfl
def aDv:(prog.globals[0]?).map (·.type)=some 278:=by kernel_rfl
def aBA (b:Os) (a:Array Value):laidMetH prog iU ((World.doorLaid prog 14 b).forCall (fun _ _=>0) ⟨#[],a, []⟩).memory:=
 laidMetH_of_parts3 (fuel:=8) (laidMet_of_run' 8 kR kR) kR kR
def yX:(Rows.laid_math_bits_deBruijn64tab:DataW Unit)=Lib.tabData .u8 (Lib.deBruijn64tab.map fun a:Nat=>(a:Int)):=rfl
def qT {b:World} (a:laidMetH prog iU b):TabW b:=by
 rw [MakeChecks.laidMetH_plain _ _ _ kR] at a;unfold iU at a;rw [yX] at a;have d:=Lib.tabIs_of_head aDs aDv underlying278 underlying5 kR kR a;intro c e;have:=d.cell aDs c (by rw [zBc];exact e);rw [this,zAb,zAf,zAb];cases Lib.deBruijn64tab[c]? <;> rfl
def pN (e:Nat) (c:Option Addr) (a d:Nat) (n:List Value) (g:Option Addr) (i l:Nat) (b:World) (j:b.ownsRow e 3 1 (.slice c a d) a n) (k:Rd b b.heap.size 1 g 1 [sv l]) (r:e<=b.heap.size) (B:a<=1000000):
 Calls prog 158 #[.slice c a d,(a:Int),.slice g 1 i] b fun q m=>∃f,q=.returned f/\m.ownsRow e 3 1 f (a+1) (n++ [sv l])/\b.grownBy m (Value.slice c a d).ownBlock/\(f.ownBlock=(Value.slice c a d).ownBlock∨f.ownBlock=some b.heap.size):=by
 obtain ⟨z,u,w,x,y⟩:=info_parts fZ;have C:=nY (P:=prog) 27 3 1 underlying27 Tryz.sizeOf3 c a d a nL;obtain ⟨o,p⟩:=hqq2 j k;clear j k;go_enter func158,ntmps158;go_wp2_with (at_builtin;refine bK _ rfl (.tmp 23) (.tmp 24) _ rfl e 3 z (.int .i64 0) 1 8 underlying27 u w x y rfl dC (.slice c a d) a _ rfl o.out b.heap.size g 1 i _ rfl p.out (by simp [Value.oneCell',sv]) (by unfold maxLen;omega) oM r ?_;intro A D v t s);go_ret;exact ⟨A,rfl,v,t,s⟩
def aCt (a:Int) (c:0<=a) (d:a<=255):∃b:UInt8,(b.toNat:Int)=a:=⟨UInt8.ofNat a.toNat,by
 rw [UInt8.toNat_ofNat'];omega⟩
def Gw.gw {d:Nat->Prop} {c e:Nat} (f:c<=e):∀b,Gw (Gw d c) e b->Gw d c b:=fun b a=>by
 rcases a with a | a;exact a;exact .inr oM
def wK (a b c:Nat) (d:a < 2 ^ c) (e:b % 2 ^ c=0) (f:a < 4294967296) (g:b < 4294967296):bits .or .u32 (a:Int) (b:Int)=((a+b:Nat):Int):=by
 rw [u32_or_nat _ _ f g,Nat.or_comm,nat_join c b a e d,zCo]
def rG (b:ByteArray) (a:Nat) (c:a < b.size):b.data.toList[a]?=some b[a]:=by
 rw [zAa (by simpa using c)];rfl
def wC (c:ByteArray) (g:Int) (K:World) (S:c.size<=maxLen):
 Calls prog 90 #[.string c,.int .i64 g] K fun N a1=>N=.returned (.tuple #[uv (aW c.data.toList g).1,iv (aW c.data.toList g).2.1,iv (aW c.data.toList g).2.2])/\K=a1:=by
 unfold maxLen at S;have H:c.data.toList.length=c.size:=by simp
 have s:=lhd H;clear H;by_cases y:g < 0
 · have j:aW c.data.toList g=(0,g,2):=(by rw [aW,zBw (.inl y)]);have e:=lhd j;clear j;go_enter func90,ntmps90;go_wp2;go_ret3;exact ⟨dA e.out,rfl⟩
 by_cases F:(c.size:Int) < g
 · have j:aW c.data.toList g=(0,g,2):=(by rw [aW,zBw (.inr (by rw [s.out];exact F))]);have e:=lhd j;clear j;go_enter func90,ntmps90;go_wp2;go_ret3;exact ⟨dA e.out,rfl⟩
 obtain ⟨d,rfl⟩:=Int.eq_ofNat_of_zero_le (Int.not_lt.1 y);have W:d<=c.size:=oM;have j:aW c.data.toList (d:Int)=match bO (c.data.toList.drop d) true 0 d with | some (B,a0)=>(B,(a0:Int),0)| none=>(0,(d:Int),4):=by rw [aW,zBv (by rw [s.out];omega)];rfl
 have e:=lhd j;have a2:decide ((d:Int) < 0)=false:=by simp
 have a3:decide (c.size < d)=false:=by simp;omega
 clear j y F;go_enter func90,ntmps90;go_wp2
 go_loop [7,8] (fun B A=>∃a f:Nat,a<=c.size/\d<=a/\A=.int .i64 a/\B=.int .u64 f/\bO (c.data.toList.drop a) (a==d) f a=bO (c.data.toList.drop d) true 0 d) (fun _ A=>c.size -(intOf A).toNat)
 case atStart=>exact ⟨d,0,W,zAs _,rfl,rfl,by simp⟩
 case round=>
  obtain ⟨a,f,a4,w,rfl,rfl,i⟩:=hrel;have n:=lhd i;clear i;by_cases z:a < c.size
  · have E:c.data.toList.drop a=c[a]::c.data.toList.drop (a+1):=(by have X:a < c.data.toList.length:=(by have:=s.out;omega);rw [zAx X];rfl);rw [E,fH] at n;have V:=eI (P:=prog) 9 underlying9 c a z;clear E;generalize c[a]=x at V n;have Z:x.toNat < 256:=UInt8.toNat_lt _;by_cases D:f<=144115188075855871
    · have R:decide ((144115188075855872:Int)<=(f:Int))=false:=(by simp;omega);have I:=iL f x.toNat D Z;have t:=lhd I;have Y:aW c.data.toList (d:Int)=aW c.data.toList (d:Int)->True:=fun _=>trivial;clear I Y;have J:∀q:Bool,(a==d)=q->(q&&(x.toNat==128))=false->bO (c.data.toList.drop d) true 0 d=if x.toNat < 128 then some (f*128+x.toNat % 128,a+1) else bO (c.data.toList.drop (a+1)) false (f*128+x.toNat % 128) (a+1):=(by intro q O Q;rw [<-n.out,O,zBv];simp only [Q,Bool.false_or,zBz];omega);have C:=lhd J;clear J;by_cases k:a=d
      · have v:((a:Int)==(d:Int))=true:=(by rw [zCn];omega);have m:(a==d)=true:=(by rw [zCn];exact k);have M:=lhd m;by_cases l:x.toNat=128
        · have u:((x.toNat:Int)==128)=true:=(by rw [zCn];omega);have i:=n.out;rw [m,l] at i;have o:=lhd i;clear k w m l i;go_wp2;go_ret3;refine ⟨dA ?_,rfl⟩;rw [e.out,<-o.out,zBw (by simp)]
        · have u:((x.toNat:Int)==128)=false:=(by rw [zCa];omega);have r:=C.out true M.out (by simp [l]);have p:=lhd r;clear k m l r;go_wp2
          · have z:(x.toNat:Int) < 128:=(by assumption);go_ret3;refine ⟨kS t.out ?_ (b:=((a+1:Nat):Int)) ?_,rfl⟩;push_cast;rfl
            · rw [e.out,p.out,zBw oM]
          · have U:(128:Int)<=(x.toNat:Int):=(by assumption);refine ⟨⟨a+1,f*128+x.toNat % 128,by omega,by omega,by go_num,eA t.out,?_⟩,by simp [intOf];omega⟩;rw [p.out,zBv oM,show ((a+1)==d)=false by rw [zCa];omega]
      · have v:((a:Int)==(d:Int))=false:=(by rw [zCa];omega);have m:(a==d)=false:=(by rw [zCa];exact k);have r:=C.out false m (by simp);have p:=lhd r;clear k m r;go_wp2
        · have z:(x.toNat:Int) < 128:=(by assumption);go_ret3;refine ⟨kS t.out ?_ (b:=((a+1:Nat):Int)) ?_,rfl⟩;push_cast;rfl
          · rw [e.out,p.out,zBw oM]
        · have U:(128:Int)<=(x.toNat:Int):=(by assumption);refine ⟨⟨a+1,f*128+x.toNat % 128,by omega,by omega,by go_num,eA t.out,?_⟩,by simp [intOf];omega⟩;rw [p.out,zBv oM,show ((a+1)==d)=false by rw [zCa];omega]
    · have R:decide ((144115188075855872:Int)<=(f:Int))=true:=(by simp;omega);have i:=n.out;rw [zBw (by simp;omega)] at i;have o:=lhd i;clear i D;by_cases k:a=d
      · have v:((a:Int)==(d:Int))=true:=(by rw [zCn];omega);clear k w;by_cases l:x.toNat=128
        · have u:((x.toNat:Int)==128)=true:=(by rw [zCn];omega);clear l;go_wp2;go_ret3;exact ⟨dA (by rw [e.out,<-o.out]),rfl⟩
        · have u:((x.toNat:Int)==128)=false:=(by rw [zCa];omega);clear l;go_wp2;go_ret3;exact ⟨dA (by rw [e.out,<-o.out]),rfl⟩
      · have v:((a:Int)==(d:Int))=false:=(by rw [zCa];omega);clear k w;go_wp2;go_ret3;exact ⟨dA (by rw [e.out,<-o.out]),rfl⟩
  · have G:a=c.size:=oM;have L:=lhd G;clear G;go_wp2;go_ret3;refine ⟨dA ?_,rfl⟩;have T:c.data.toList.drop a= []:=List.drop_eq_nil_of_le (by rw [s.out];have:=L.out;omega);rw [e.out,<-n.out,T,bO]
def lV (a:List UInt8) (b:Int) (c:World) (f:Nat) (g e:Int) (j:aW a b=(f,g,e)) (k:(⟨a.toArray⟩:ByteArray).size<=maxLen):
 Calls prog 90 #[.string ⟨a.toArray⟩,.int .i64 b] c fun d i=>d=.returned (.tuple #[.int .u64 (f:Int),.int .i64 g,.int .i64 e])/\c=i:=
 (wC ⟨a.toArray⟩ b c k).mono fun d i ⟨l,m⟩=>⟨by rw [l,show (⟨a.toArray⟩:ByteArray).data.toList=a from rfl,j];rfl,m⟩
def zO (a:ByteArray) (d:Int) (n:World) (H:a.size<=1000000):
 Calls prog 89 #[.string a,.int .i64 d] n fun u D=>u=.returned (.tuple #[.int .u32 ((ofB a.data.toList d).1:Int),iv (ofB a.data.toList d).2])/\Below n.heap.size n D:=by
 have p:a.data.toList.length=a.size:=by simp
 have f:=lhd p;clear p;by_cases m:d < 0
 · have c:ofB a.data.toList d=(0,2):=(by rw [ofB,zBw (.inl m)]);have e:=lhd c;clear c;go_enter func89,ntmps89;go_wp2;go_ret2;exact ⟨iA rfl e.out,Below.refl _ _⟩
 by_cases o:(a.size:Int) < d
 · have c:ofB a.data.toList d=(0,2):=(by rw [ofB,zBw (.inr (by rw [f.out];exact o))]);have e:=lhd c;clear c;go_enter func89,ntmps89;go_wp2;go_ret2;exact ⟨iA rfl e.out,Below.refl _ _⟩
 by_cases y:(a.size:Int) < d+4
 · have c:ofB a.data.toList d=(0,4):=(by rw [ofB,zBv (by rw [f.out];omega),zBw (by rw [f.out];omega)]);have e:=lhd c;clear c;go_enter func89,ntmps89;go_wp2;go_ret2;exact ⟨iA rfl e.out,Below.refl _ _⟩
 obtain ⟨b,rfl⟩:=Int.eq_ofNat_of_zero_le (Int.not_lt.1 m);have c:ofB a.data.toList (b:Int)=(ofN a.data.toList b 4,0):=by rw [ofB,zBv (by rw [f.out];omega),zBv (by rw [f.out];omega)];rfl
 have G:b+4<=a.size:=oM;have I:decide ((b:Int) < 0)=false:=by simp
 have J:decide (a.size < b)=false:=by simp;omega
 have K:decide ((a.size:Int) < (b:Int)+4)=false:=by simp;omega
 have z:=eI (P:=prog) 9 underlying9 a b oM;have A:∀g,(Instr.index 9 (.string a) (.int .i64 ((b:Int)+1))).run prog g=_:=eI (P:=prog) 9 underlying9 a (b+1) oM;have B:∀g,(Instr.index 9 (.string a) (.int .i64 ((b:Int)+2))).run prog g=_:=eI (P:=prog) 9 underlying9 a (b+2) oM;have C:∀g,(Instr.index 9 (.string a) (.int .i64 ((b:Int)+3))).run prog g=_:=eI (P:=prog) 9 underlying9 a (b+3) oM;have i:=rG a b oM;have j:=rG a (b+1) oM;have k:=rG a (b+2) oM;have l:=rG a (b+3) oM;generalize a[b]=x0 at z i;generalize a[b+1]=x1 at A j;generalize a[b+2]=x2 at B k;generalize a[b+3]=x3 at C l;have q:ofN a.data.toList b 4=x0.toNat+x1.toNat*256+x2.toNat*65536+x3.toNat*16777216:=by simp only [ofN,zBp,i,j,k,l,Option.getD_some];omega
 rw [q] at c;have e:=lhd c;have E:x0.toNat < 256:=UInt8.toNat_lt _;have b1:x1.toNat < 256:=UInt8.toNat_lt _;have b2:x2.toNat < 256:=UInt8.toNat_lt _;have F:x3.toNat < 256:=UInt8.toNat_lt _;clear c m o y q i j k l;go_enter func89,ntmps89;go_wp2;go_quiet (fail);go_wp2;go_ret2;refine ⟨iA ?_ e.out,below_drewN bR _⟩;have v:=wK x0.toNat (x1.toNat*256) 8 oM oM oM oM;have w:=wK (x0.toNat+x1.toNat*256) (x2.toNat*65536) 16 oM oM oM oM;have x:=wK (x0.toNat+x1.toNat*256+x2.toNat*65536) (x3.toNat*16777216) 24 oM oM oM oM;have r:((x1.toNat:Int)*256)=((x1.toNat*256:Nat):Int):=oM;have s:((x2.toNat:Int)*65536)=((x2.toNat*65536:Nat):Int):=oM;have t:((x3.toNat:Int)*16777216)=((x3.toNat*16777216:Nat):Int):=oM;show bits .or .u32 (bits .or .u32 (bits .or .u32 (x0.toNat:Int) ((x1.toNat:Int)*256)) ((x2.toNat:Int)*65536)) ((x3.toNat:Int)*16777216)=_;rw [r,v,s,w,t,x]
end
section
def oL {a b:Nat} (c:a < 256):a+256*b=a ^^^(256*b):=by
 apply Nat.eq_of_testBit_eq;intro f;have e:a+256*b=2 ^ 8*b+a:=oM;rw [e,Nat.testBit_two_pow_mul_add b (show a < 2 ^ 8 from c),Nat.testBit_xor,show 256*b=2 ^ 8*b from rfl,Nat.testBit_two_pow_mul];by_cases d:f < 8
 · rw [zBw d,zBx oM];simp
 · rw [zBv d,zBy oM,Nat.testBit_lt_two_pow (zAl (show a < 2 ^ 8 from c) (zBo oM oM))];simp
def aDa (a b c:Nat):2 ^ a*(b ^^^ c)=(2 ^ a*b)^^^(2 ^ a*c):=by
 apply Nat.eq_of_testBit_eq;intro d;rw [Nat.testBit_xor,Nat.testBit_two_pow_mul,Nat.testBit_two_pow_mul,Nat.testBit_two_pow_mul,Nat.testBit_xor];cases decide (d>=a)<;> simp
def aCu (a b:Nat):(a ^^^ b)/ 2=(a / 2)^^^(b / 2):=by
 apply Nat.eq_of_testBit_eq;intro c;rw [Nat.testBit_xor,<-Nat.testBit_succ,<-Nat.testBit_succ,<-Nat.testBit_succ,Nat.testBit_xor]
def aC9 (a b:Nat):(a ^^^ b)% 2=(a % 2+b % 2)% 2:=by
 have c:=Nat.testBit_xor a b 0;rw [Nat.testBit_zero,Nat.testBit_zero,Nat.testBit_zero] at c;rcases Nat.mod_two_eq_zero_or_one a with d | d <;> rcases Nat.mod_two_eq_zero_or_one b with e | e <;> rcases Nat.mod_two_eq_zero_or_one (a ^^^ b) with f | f <;> rw [d,e,f] at c <;> rw [d,e,f] <;> first | rfl |(exact absurd c dC)
def uG (b a:Nat):bI (b ^^^ a)=bI b ^^^ bI a:=by
 unfold bI;rw [aC9,aCu];rcases Nat.mod_two_eq_zero_or_one b with c | c <;> rcases Nat.mod_two_eq_zero_or_one a with d | d <;> rw [c,d]
 · rw [zBv dC,zBv dC,zBv dC]
 · rw [zBw dC,zBv dC,zBw dC,Nat.xor_assoc]
 · rw [zBw dC,zBw dC,zBv dC,Nat.xor_assoc,Nat.xor_assoc,Nat.xor_comm (a / 2)]
 · rw [zBv dC,zBw dC,zBw dC,Nat.xor_assoc,<-Nat.xor_assoc 3988292384,Nat.xor_comm 3988292384,Nat.xor_assoc (a / 2),Nat.xor_self,Nat.xor_zero]
def mB (b c:Nat):∀a,bU a (b ^^^ c)=bU a b ^^^ bU a c
 | 0=>rfl
 | a+1=>by show bI (bU a (b ^^^ c))=bI (bU a b)^^^ bI (bU a c);rw [mB b c a,uG]
def mC (c:Nat) (b:Nat):∀a,bU (a+b) c=bU a (bU b c)
 | 0=>by rw [zBi];rfl
 | a+1=>by rw [Nat.add_right_comm];show bI (bU (a+b) c)=bI (bU a (bU b c));rw [mC c b a]
def oJ (b:Nat):∀a,bU a (2 ^ a*b)=b
 | 0=>by simp [bU]
 | a+1=>by rw [mC _ 1 a];have c:bU 1 (2 ^(a+1)*b)=2 ^ a*b:=(by show bI (2 ^(a+1)*b)=_;have d:2 ^(a+1)*b=2*(2 ^ a*b):=(by rw [Nat.pow_succ,Nat.mul_comm (2 ^ a) 2,Nat.mul_assoc]);rw [d];unfold bI;rw [zBv oM];omega);rw [c,oJ b a]
def leN:List UInt8->Nat
 | []=>0
 | c::r=>c.toNat+256*leN r
def aBG (a:Nat) (b:UInt8):eO ((a % 256)^^^ b.toNat)^^^(a / 256)=bU 8 (a ^^^ b.toNat):=by
 have c:a=(a % 256)^^^(256*(a / 256)):=by rw [<-oL oM];omega
 have d:a ^^^ b.toNat=((a % 256)^^^ b.toNat)^^^(2 ^ 8*(a / 256)):=by
  conv=>lhs;rw [c]
  rw [Nat.xor_assoc,Nat.xor_assoc,Nat.xor_comm (256*(a / 256))]
 rw [d,mB,oJ];rfl
def yI:∀(g:List UInt8) (b a:Nat) (e:UInt8),g[b]?=some e->a < 8->leN (g.set b (UInt8.ofNat (e.toNat ^^^ 2 ^ a)))=leN g ^^^ 2 ^(8*b+a)
 | [],b,a,e,d,_=>by cases d
 | c::t,0,a,e,d,hr=>by injection d with d;subst d;have f:=c.toNat_lt;have j:2 ^ a < 2 ^ 8:=Nat.pow_lt_pow_right oM hr;have i:c.toNat ^^^ 2 ^ a < 256:=Nat.xor_lt_two_pow (n:=8) f j;show (UInt8.ofNat (c.toNat ^^^ 2 ^ a)).toNat+256*leN t=(c.toNat+256*leN t)^^^ 2 ^(8*0+a);rw [UInt8.toNat_ofNat',zBt (show c.toNat ^^^ 2 ^ a < 2 ^ 8 from i),oL i,oL f,Nat.mul_zero,zBi,Nat.xor_assoc,Nat.xor_assoc,Nat.xor_comm (2 ^ a)]
 | c::t,b+1,a,e,d,hr=>by have k:=yI t b a e d hr;have f:=c.toNat_lt;show c.toNat+256*leN (t.set b (UInt8.ofNat (e.toNat ^^^ 2 ^ a)))=(c.toNat+256*leN t)^^^ 2 ^(8*(b+1)+a);rw [k,oL f,oL f,show 256=2 ^ 8 from rfl,aDa,<-Nat.pow_add,Nat.xor_assoc,show 8+(8*b+a)=8*(b+1)+a by omega]
def BuAt (c d:List UInt8) (f b e:Nat):Prop:=d.length=c.length/\∀a,(leN d).testBit a=((leN c).testBit a ^^(decide (b<=a/\a < b+e)&&f.testBit (a - b)))
def BuAt.start (a:List UInt8) (c b:Nat):BuAt a a c b 0:=⟨rfl,fun d=>by rw [zBx oM];simp⟩
def BuAt.turn {g d:List UInt8} {e a b:Nat} {f:UInt8} (i:BuAt g d e a b) (k:e.testBit b=true) (l:d[(a+b)/ 8]?=some f):BuAt g (d.set ((a+b)/ 8) (UInt8.ofNat (f.toNat ^^^ 2 ^((a+b)% 8)))) e a (b+1):=by
 refine ⟨by rw [zAt];exact i.1,fun c=>?_⟩;rw [yI d _ _ f l oM,show 8*((a+b)/ 8)+(a+b)% 8=a+b by omega,Nat.testBit_xor,i.2 c,Nat.testBit_two_pow];by_cases j:c=a+b
 · subst j;rw [zBx (show ¬(a<=a+b/\a+b < a+b) by omega),zBy (show a<=a+b/\a+b < a+(b+1) by omega),Nat.add_sub_cancel_left,k];simp
 · rw [show (decide (a<=c/\c < a+(b+1)))=decide (a<=c/\c < a+b) from decide_eq_decide.2 oM,zBx (show ¬a+b=c by omega)];simp
def BuAt.done {e f:List UInt8} {c a:Nat} (g:BuAt e f c a 32) (j:c < 4294967296):leN f=leN e ^^^(2 ^ a*c):=by
 apply Nat.eq_of_testBit_eq;intro b;rw [g.2 b,Nat.testBit_xor,Nat.testBit_two_pow_mul];by_cases d:a<=b
 · by_cases i:b < a+32
   · rw [zBy (show a<=b/\b < a+32 from ⟨d,i⟩),zBy (show b>=a from d)]
   rw [zBx (show ¬(a<=b/\b < a+32) by omega),zBy (show b>=a from d),Nat.testBit_lt_two_pow (zAl (show c < 2 ^ 32 from j) (zBo oM oM))];rfl
 · rw [zBx (show ¬(a<=b/\b < a+32) by omega),zBx (show ¬b>=a by omega)]
end
end Go.Proofs.YtnmapianpjamnaaGreatDoor
