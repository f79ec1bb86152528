/- Lemmas of the walk. Conditions: each its own. -/
import Derived.Test.YthldmddkfbijhaaGreatDoorPst3
import Derived.Test.YthldmddkfbijhaaGreatDoorPst4
import Derived.Test.YthldmddkfbijhaaGreatDoorSht
import Derived.Test.YthldmddkfbijhaaGreatDoorProg
set_option linter.all false
set_option maxRecDepth 100000
set_option maxHeartbeats 4000000
open Go.Proofs.Tryz
namespace Go.Proofs.YthldmddkfbijhaaGreatDoor
open Go.RowKit
def TabW (a:World):Prop:=TabAt 1 Lib.deBruijn64tab a
theorem TabW.below {B:Nat} {b c:World} (d:TabW b) (g:Below B b c) (e:1 < B):TabW c:=fun a f=>(g.cell (p:=⟨1,a,none⟩) e).trans (d a f)
theorem TabW.pos {a:World} (c:TabW a):1 < a.heap.size:=by
 have d:=c 0 dC;rcases zBe 1 a.heap.size with b | b;exact b
 · exfalso;have:a.heap[1]?=none:=Array.getElem?_eq_none b;simp [World.cell?,this] at d
theorem aKU (b c:Nat) (g:b < 18446744073709551616) (f:Lib.ctz 64 b=c) (a:World) (e:TabW a):
 Calls prog 278 #[.int .u64 (b:Int)] a fun d i=>d=.returned (.int .i64 (c:Int))/\i=a:=by
 have:=Any7.bits_TrailingZeros64 shTz b g a (fun _=>e);rw [f] at this;exact this
theorem gX (a m c:Nat) (s:a < 18446744073709551616) (q:a.testBit m=true) (p:bK a m=c) (B:c < bK a 64) (d:World) (j:TabW d) (N:1 < d.heap.size):
 Calls prog 264 #[.int .u64 (a:Int),(c:Int)] d fun n Q=>n=.returned (.int .i64 (m:Int))/\Below d.heap.size d Q:=by
 have A:=aJV (x:=a) s q p;have r:=fun e M=>aFN (x:=a) s q (i:=e) M;rw [p] at r;have C:=aET a;have L:=oP a 64;obtain ⟨I,J,u,R,H⟩:=hqq5 A r C B j;clear A r C q p j;have U:decide ((c:Int) < 0)=false:=by simp
 go_enter func264,ntmps264;go_wp2_with fail;refine (iG _ 1 1 _ [a] _ (Rd.made _ _ 1 1 _ rfl) (by simpa using s) oM).mono ?_;rintro n v ⟨rfl,o⟩;have y:Below d.heap.size d v:=by first |(rw [o];exact bR.alloc nL _)|(rw [<-o];exact bR.alloc nL _)
 have E:(([a].map fun a=>bK a 64).sum)=bK a 64:=by simp
 rw [E];obtain ⟨O,D⟩:=eqx (bK a 64);rw [D] at B L⊢;have V:decide ((c:Int)>=(O:Int))=false:=by simp;omega
 clear E D;have t:=lhd y;clear o y;go_wp2_with fail;go_loopw [0,15] (fun P e wr=>∃b:Nat,b<=c/\e=.int .i64 (b:Int)/\P=.int .u64 ((clr a b:Nat):Int)/\wr=v) (fun _ e _=>c -(intOf e).toNat)
 case atStart=>exact ⟨0,zAp _,rfl,rfl,rfl⟩
 case round=>
  obtain ⟨b,X,rfl,rfl,rfl⟩:=hrel;by_cases W:b < c
  · have w:=J.out b oM;have k:=u.out b;have l:clr a (b+1)=clr a b&&&(clr a b - 1):=rfl;obtain ⟨g,f⟩:=eqx (clr a b);rw [f] at w k l⊢;obtain ⟨G,F⟩:=eqx (g - 1);rw [F] at l;have S:IntKind.u64.wrap ((g:Int) - 1)=(G:Int):=(by rw [IntKind.wrap_u64];omega);have T:=aC9 g G oM oM;have K:=lhd l;clear f F l w k;go_wp2_with fail;go_roundw
    case rel=>exact ⟨b+1,by omega,by go_num,by rw [K.out],by first | rfl | trivial⟩
    case measure=>simp [intOf];omega
  · obtain rfl:b=c:=oM;have k:=u.out b;have z:=I.out;obtain ⟨g,f⟩:=eqx (clr a b);rw [f] at k z⊢;have j:=H.out.below t.out N;clear f;go_wp2_with fail;refine (aKU g m oM z _ j).mono ?_;rintro n Y ⟨rfl,rfl⟩;go_wp2_with fail;go_ret;exact ⟨rfl,t.out⟩
theorem aJg (a:Nat) (c:a < 18446744073709551616):18446744073709551615 ^^^ a=18446744073709551615 - a:=by
 have e:18446744073709551615=2 ^ 64 - 1:=dC;have f:18446744073709551615 - a=2 ^ 64 -(a+1):=oM;rw [f,e];apply Nat.eq_of_testBit_eq;intro b;rw [Nat.testBit_xor,Nat.testBit_two_pow_sub_one,Nat.testBit_two_pow_sub_succ c];by_cases d:b < 64
 · simp [d]
 · have:a.testBit b=false:=Nat.testBit_lt_two_pow (zAl (show a < 2 ^ 64 from c) (zBp dC (show 64<=b by omega)));simp [d,this]
theorem aKa (a:Nat) (b:a < 18446744073709551616):bits .xor .u64 IntKind.u64.max (a:Int)=((fE a false:Nat):Int):=by
 have c:IntKind.u64.max=((18446744073709551615:Nat):Int):=dC;rw [c,bits_xor_u64_nat _ _ oM b];congr 1;unfold fE;simp only [Bool.false_eq_true,if_false];exact aJg a b
theorem uS (k:Nat) (n:List Bool) (m:Bool) (a f:Nat) (e:World) (W:Bk e k 230 (gY n)) (T:n.length<=128) (ah:n[a]?=some m) (ag:(n.take a).count m=f) (am:TabW e):
 Calls prog 242 #[k,(f:Int),.bool m] e fun w aQ=>w=.returned (.int .i64 (a:Int))/\Below e.heap.size e aQ:=by
 have au:=(zAc.1 ah).1;have B:1 < e.heap.size:=am.pos;have Y:=aCe _ m (nD n);have Z:=aCe _ m (mX n T);have aF:=nD n;have aG:=mX n T;have o:=W.cell 0;have O:=W.cell 1;have P:=W.cell 2;have aS:decide ((f:Int) < 0)=false:=by simp
 have aP:a < n.length:=au;have ai:∀a1:Nat,(([a1].map fun a1=>bK a1 64).sum)=bK a1 64:=fun a1=>by simp
 obtain ⟨N,Q⟩:=eqx (fE (w0 n) m);obtain ⟨z,R⟩:=eqx (fE (w1 n) m);unfold gY at o O P;obtain ⟨a2,ac⟩:=eqx (w0 n);obtain ⟨a3,ad⟩:=eqx (w1 n);obtain ⟨aM,ae⟩:=eqx n.length;have aI:=ix0 (a2:Int) (a3:Int);have aJ:=ix1 (a2:Int) (a3:Int);rw [Q] at Y;rw [R] at Z;rw [ac] at aF Q;rw [ad] at aG R;rw [ae,ac,ad] at o O P;rw [ae] at aP;have a5:=lhd am;replace o:e.cell? ⟨k,0,none⟩=some (.int .i64 (aM:Int)):=o.trans rfl;have r:=W.lt;obtain ⟨A,a4⟩:=hqq2 o T;have aD:f<=a:=by rw [<-ag];exact zAk zBv (by rw [zAj];omega)
 have ax:=lhd aD;clear aD;have ap:=fun x=>aKp (b:=m) T ah ag x;have af:=fun x=>aKq (b:=m) T ah ag x;rw [ac,Q] at ap af;rw [ad,R] at af;obtain ⟨v,aq⟩:=eqx (bK N 64);obtain ⟨av,ar⟩:=eqx (bK z 64);obtain ⟨u,ao⟩:=eqx (f - v);have aC:64<=a->v<=f/\z.testBit (a - 64)=true/\bK z (a - 64)=u/\u < av:=fun x=>by obtain ⟨aU,aT,aA,aO,S,U,al,aB⟩:=af x;rw [aq] at aA;rw [ar] at aB;subst aA;rw [ao] at S;subst S;exact ⟨aO,U,al,aB⟩
 have aH:m=false->bits .xor .u64 IntKind.u64.max (a2:Int)=(N:Int)/\bits .xor .u64 IntKind.u64.max (a3:Int)=(z:Int):=fun an=>by rw [<-Q,<-R,an];exact ⟨aKa a2 aF,aKa a3 aG⟩
 have aE:m=true->N=a2/\z=a3:=fun an=>by rw [<-Q,<-R,an];simp [fE]
 obtain ⟨az,a6,a7,a8,ay,aR,a9⟩:=hqq7 ap aC aq ar ao ae au;clear ap af aC aq ar ao ae ah ag W T am Q R ac ad au;obtain ⟨ab,aa⟩:=hqq2 aH aE;clear aH aE;cases m with
 | true=>
   replace aa:=aa.out rfl;clear ab;go_enter func242,ntmps242;go_wp2_with fail;go_loopw [1,21] (fun a0 L wr=>∃y:Nat,L=.int .i64 (y:Int)/\((y=0/\a0=.int .i64 (f:Int))∨(y=1/\64<=a/\a0=.int .i64 (u:Int)))/\Below e.heap.size e wr) (fun _ L _=>2 -(intOf L).toNat)
   case atStart=>exact ⟨0,rfl,.inl ⟨rfl,rfl⟩,Below.refl _ _⟩
   case round=>
    obtain ⟨y,rfl,(⟨rfl,rfl⟩|⟨rfl,V,rfl⟩),g⟩:=hrel
    all_goals
        obtain ⟨aK,aL⟩:=aa;subst aK;subst aL
    · clear O P aJ;have t:=g.size;have G:=(g.cell (p:=⟨k,0,none⟩) r).trans o;clear o;go_wp2_with fail;refine (iG _ 1 1 _ [N] _ (Rd.made _ _ 1 1 _ rfl) (by simpa using Y) oM).mono ?_;rintro w F ⟨rfl,l⟩;have c:Below e.heap.size e F:=(by first |(rw [l];exact g.alloc t _)|(rw [<-l];exact g.alloc t _));rw [ai,a7.out];have H:=(c.cell (p:=⟨k,0,none⟩) r).trans A.out;clear l G;by_cases x:a < 64
      · obtain ⟨i,j,d⟩:=az.out x;have q:=d;rw [a7.out] at q;have J:f < v:=q;have I:IntKind.i64.wrap (a:Int)=(a:Int):=(by rw [IntKind.wrap_i64];omega);obtain ⟨C,D,E⟩:=hqq3 i j d;clear i j d q;go_wp2_with fail;refine (gX N a f Y C.out D.out E.out _ (a5.out.below c B) (zAl B c.size)).mono ?_;rintro w aj ⟨rfl,K⟩;have s:=c.trans (K.mono c.size);have ak:=(s.cell (p:=⟨k,0,none⟩) r).trans A.out;clear H;go_wp2_with fail;go_ret;exact ⟨rfl,s⟩
      · obtain ⟨M,i,j,d⟩:=a6.out oM;have J:¬f < v:=oM;have aN:decide (f < v)=false:=zBy J;have I:IntKind.i64.wrap ((f:Int) -(v:Int))=(u:Int):=(by have:=ay.out;have S:=a4.out;have U:=ax.out;have al:=a9.out;rw [IntKind.wrap_i64];omega);clear M i j d;go_wp2_with fail;go_roundw
        case rel=>exact ⟨1,by go_num,.inr ⟨by first | rfl | trivial,by omega,by go_num⟩,c⟩
        case measure=>simp [intOf]
    · clear O P aI;have t:=g.size;have G:=(g.cell (p:=⟨k,0,none⟩) r).trans o;clear o;go_wp2_with fail;refine (iG _ 1 1 _ [z] _ (Rd.made _ _ 1 1 _ rfl) (by simpa using Z) oM).mono ?_;rintro w F ⟨rfl,l⟩;have c:Below e.heap.size e F:=(by first |(rw [l];exact g.alloc t _)|(rw [<-l];exact g.alloc t _));rw [ai,a8.out];have H:=(c.cell (p:=⟨k,0,none⟩) r).trans A.out;clear l G;obtain ⟨M,i,j,d⟩:=a6.out V;have q:=d;rw [<-a8.out] at d;have J:u < av:=q;have I:IntKind.i64.wrap (64+((a - 64:Nat):Int))=(a:Int):=(by have S:=a4.out;have U:=a9.out;rw [IntKind.wrap_i64];omega);obtain ⟨aw,X⟩:=eqx (a - 64);rw [X] at I i j;obtain ⟨C,D,E⟩:=hqq3 i j d;clear M i j d q X V;go_wp2_with fail;refine (gX z aw u Z C.out D.out E.out _ (a5.out.below c B) (zAl B c.size)).mono ?_;rintro w aj ⟨rfl,K⟩;have s:=c.trans (K.mono c.size);have ak:=(s.cell (p:=⟨k,0,none⟩) r).trans A.out;clear H;go_wp2_with fail;go_ret;exact ⟨rfl,s⟩
 | false=>
   replace ab:=ab.out rfl;clear aa;go_enter func242,ntmps242;go_wp2_with fail;go_loopw [1,21] (fun a0 L wr=>∃y:Nat,L=.int .i64 (y:Int)/\((y=0/\a0=.int .i64 (f:Int))∨(y=1/\64<=a/\a0=.int .i64 (u:Int)))/\Below e.heap.size e wr) (fun _ L _=>2 -(intOf L).toNat)
   case atStart=>exact ⟨0,rfl,.inl ⟨rfl,rfl⟩,Below.refl _ _⟩
   case round=>
    obtain ⟨y,rfl,(⟨rfl,rfl⟩|⟨rfl,V,rfl⟩),g⟩:=hrel
    all_goals
        obtain ⟨aK,aL⟩:=ab
    · clear O P aJ;have t:=g.size;have G:=(g.cell (p:=⟨k,0,none⟩) r).trans o;clear o;go_wp2_with fail;refine (iG _ 1 1 _ [N] _ (Rd.made _ _ 1 1 _ rfl) (by simpa using Y) oM).mono ?_;rintro w F ⟨rfl,l⟩;have c:Below e.heap.size e F:=(by first |(rw [l];exact g.alloc t _)|(rw [<-l];exact g.alloc t _));rw [ai,a7.out];have H:=(c.cell (p:=⟨k,0,none⟩) r).trans A.out;clear l G;by_cases x:a < 64
      · obtain ⟨i,j,d⟩:=az.out x;have q:=d;rw [a7.out] at q;have J:f < v:=q;have I:IntKind.i64.wrap (a:Int)=(a:Int):=(by rw [IntKind.wrap_i64];omega);obtain ⟨C,D,E⟩:=hqq3 i j d;clear i j d q;go_wp2_with fail;refine (gX N a f Y C.out D.out E.out _ (a5.out.below c B) (zAl B c.size)).mono ?_;rintro w aj ⟨rfl,K⟩;have s:=c.trans (K.mono c.size);have ak:=(s.cell (p:=⟨k,0,none⟩) r).trans A.out;clear H;go_wp2_with fail;go_ret;exact ⟨rfl,s⟩
      · obtain ⟨M,i,j,d⟩:=a6.out oM;have J:¬f < v:=oM;have aN:decide (f < v)=false:=zBy J;have I:IntKind.i64.wrap ((f:Int) -(v:Int))=(u:Int):=(by have:=ay.out;have S:=a4.out;have U:=ax.out;have al:=a9.out;rw [IntKind.wrap_i64];omega);clear M i j d;go_wp2_with fail;go_roundw
        case rel=>exact ⟨1,by go_num,.inr ⟨by first | rfl | trivial,by omega,by go_num⟩,c⟩
        case measure=>simp [intOf]
    · clear O P aI;have t:=g.size;have G:=(g.cell (p:=⟨k,0,none⟩) r).trans o;clear o;go_wp2_with fail;refine (iG _ 1 1 _ [z] _ (Rd.made _ _ 1 1 _ rfl) (by simpa using Z) oM).mono ?_;rintro w F ⟨rfl,l⟩;have c:Below e.heap.size e F:=(by first |(rw [l];exact g.alloc t _)|(rw [<-l];exact g.alloc t _));rw [ai,a8.out];have H:=(c.cell (p:=⟨k,0,none⟩) r).trans A.out;clear l G;obtain ⟨M,i,j,d⟩:=a6.out V;have q:=d;rw [<-a8.out] at d;have J:u < av:=q;have I:IntKind.i64.wrap (64+((a - 64:Nat):Int))=(a:Int):=(by have S:=a4.out;have U:=a9.out;rw [IntKind.wrap_i64];omega);obtain ⟨aw,X⟩:=eqx (a - 64);rw [X] at I i j;obtain ⟨C,D,E⟩:=hqq3 i j d;clear M i j d q X V;go_wp2_with fail;refine (gX z aw u Z C.out D.out E.out _ (a5.out.below c B) (zAl B c.size)).mono ?_;rintro w aj ⟨rfl,K⟩;have s:=c.trans (K.mono c.size);have ak:=(s.cell (p:=⟨k,0,none⟩) r).trans A.out;clear H;go_wp2_with fail;go_ret;exact ⟨rfl,s⟩
theorem sU (d:Nat) (c:List Bool) (b:Nat) (a:World) (e:Bk a d 230 (gY c)) (j:b < c.length):
 Calls prog 208 #[d,(b:Int)] a fun f g=>f=.returned (.int .i64 0)/\Below a.heap.size a g:=by
 have i:a.cell? ⟨d,0,none⟩=some (.int .i64 (c.length:Int)):=(e.cell 0).trans rfl;have m:=e.lt;have k:¬(b:Int) < 0:=oM;have l:decide ((b:Int)>=(c.length:Int))=false:=by simp;omega
 clear e;go_enter func208,ntmps208;go_wp2_with fail;go_ret;exact ⟨rfl,Below.refl _ _⟩
theorem aK2 (b:List Bool) (a:Nat):(if a < 64 then w0 b >>> a else w1 b >>>(a - 64))&&& 1=if b.getD a false then 1 else 0:=by
 by_cases d:a < 64
 · rw [zBx d];have:=jV (b.take 64) a;rw [Nat.and_one_is_mod,Nat.shiftRight_eq_div_pow,<-Nat.toNat_testBit,show (w0 b).testBit a=(b.take 64).getD a false from this];have c:(b.take 64).getD a false=b.getD a false:=(by simp [zAb,zBs,d]);rw [c];cases b.getD a false <;> rfl
 · rw [zBw d];have:=jV (b.drop 64) (a - 64);rw [Nat.and_one_is_mod,Nat.shiftRight_eq_div_pow,<-Nat.toNat_testBit,show (w1 b).testBit (a - 64)=(b.drop 64).getD (a - 64) false from this];have c:(b.drop 64).getD (a - 64) false=b.getD a false:=(by simp [zAb,zBt,show 64+(a - 64)=a by omega]);rw [c];cases b.getD a false <;> rfl
theorem aFP (b a:Nat) (c:Bool) (i:b < 18446744073709551616) (g:b >>> a&&& 1=if c then 1 else 0):(bits .and .u64 ((b:Int)/ 2 ^ a) 1==1)=c:=by
 have d:=aAY b a 1 (2 ^ a) i oM rfl;have e:((2 ^ a:Nat):Int)=(2:Int)^ a:=by push_cast;rfl
 rw [e] at d;have f:bits .and .u64 ((b:Int)/ 2 ^ a) 1=((b >>> a&&& 1:Nat):Int):=d;rw [f,g];cases c <;> rfl
theorem aB7 (e:Nat) (b:List Bool) (a:Nat) (i:World) (l:Bk i e 230 (gY b)) (z:b.length<=128) (y:a < b.length):
 Calls prog 166 #[e,(a:Int)] i fun n A=>n=.returned (.tuple #[.bool (b.getD a false),.int .i64 0])/\Below i.heap.size i A:=by
 have d:=lhd l;have c:=aK2 b a;obtain ⟨m,p⟩:=eqx (b.getD a false);rw [p] at c⊢;clear p;have r:=nD b;have b1:=mX b z;have C:=l.lt;clear l;go_enter func166,ntmps166;go_wp2_with fail;refine (sU e b a _ d.out y).mono ?_;rintro n q ⟨rfl,f⟩;have g:=d.out.below f d.out.lt;have s:q.cell? ⟨e,1,none⟩=some (.int .u64 ((w0 b:Nat):Int)):=(g.cell 1).trans rfl;have t:q.cell? ⟨e,2,none⟩=some (.int .u64 ((w1 b:Nat):Int)):=(g.cell 2).trans rfl;have D:=g.lt;by_cases o:a < 64
 · rw [zBx o] at c;have v:(a:Int).tdiv 64=0:=(by rw [Int.tdiv_eq_ediv_of_nonneg oM];omega);have w:(a:Int).tmod 64=(a:Int):=(by rw [Int.tmod_eq_emod_of_nonneg oM];omega);have x:IntKind.u64.wrap (a:Int)=(a:Int):=(by rw [IntKind.wrap_u64];omega);generalize w0 b=u at*
   obtain ⟨k,j⟩:=hqq2 c f;clear f g t d c;go_wp2_with fail;go_ret2;exact ⟨by rw [aFP u a m r k.out];rfl,j.out⟩
 · rw [zBw o] at c;have v:(a:Int).tdiv 64=1:=(by rw [Int.tdiv_eq_ediv_of_nonneg oM];omega);have w:(a:Int).tmod 64=((a - 64:Nat):Int):=(by rw [Int.tmod_eq_emod_of_nonneg oM];omega);have x:IntKind.u64.wrap ((a - 64:Nat):Int)=((a - 64:Nat):Int):=(by rw [IntKind.wrap_u64];omega);have B:a - 64 < 64:=oM;generalize w1 b=u at*
   generalize a - 64=k2 at*
   obtain ⟨k,j⟩:=hqq2 c f;clear f g s d c;go_wp2_with fail;go_ret2;exact ⟨by rw [aFP u k2 m b1 k.out];rfl,j.out⟩
theorem uD (a:Nat) (d:List Bool) (f:Nat) (c:World) (g:TreeAt c a d) (z:f < d.length):
 Calls prog 165 #[a,(f:Int)] c fun l B=>l=.returned (.int .i64 0)/\VisK (fun u=>u=a) c B:=by
 have A:∃e,Bk c a 202 e/\3 < e.size:=by obtain ⟨D,K,⟨rfl,L,m⟩|⟨G,m,F,C,E,x⟩⟩:=g;exact ⟨_,m,by simp⟩;exact ⟨_,x.tree,by simp⟩
 obtain ⟨e,b,y⟩:=A;have i:=VisK.set_tree b 0;have p:=g.vis i.1;have H:=b.lt;have v:c.cell? ⟨a,3,none⟩=some e[3]:=by rw [b.cell 3];simp [y]
 have w:=b.frozen 3;have I:¬(f:Int) < 0:=oM;obtain ⟨j,k⟩:=hqq2 i p;obtain ⟨t,n⟩:=eqx d.length;have r:=lhd n;have J:¬(t<=f):=oM;clear g i p b n z;go_enter func165,ntmps165;go_wp2_with fail;clear v w;refine (eP a d _ k.out).mono ?_;rintro l M ⟨rfl,o⟩;rw [r.out];have q:=j.out.below o;have s:=lhd q;clear q o j k;go_wp2_with fail;go_ret;exact ⟨rfl,s.out⟩
theorem aDh (d:Nat) (a:List Bool) (c:Nat) (i:World) (p:TreeAt i d a) (f:c < a.length):
 Calls prog 113 #[d,(c:Int)] i fun k D=>k=.returned (.tuple #[.bool (a.getD c false),.int .i64 0])/\VisK (fun z=>z=d) i D:=by
 have j:=lhd p;obtain ⟨H,e⟩:=eqx (a.getD c false);rw [e];obtain ⟨x,y⟩:=hqq2 e f;clear p e;go_enter func113,ntmps113;go_wp2_with fail;refine (uD d a c i j.out f).mono ?_;rintro k E ⟨rfl,m⟩;have B:=j.out.vis m.1;have v:=lhd m;clear m j;obtain ⟨W,C,⟨l,_,_⟩|⟨l,q,A,M,o,b⟩⟩:=B
 · rw [l] at f;simp at f
 clear f;obtain ⟨I,J,K,L,N,O,P,Q,R,S,T,U⟩:=b.cells;have Z:=b.row.lt;have X:=b.tree.lt;have Y:d≠A:=b.row.bk_ne b.tree dC;have V:=b.tree.frozen 3;obtain ⟨g,n⟩:=hqq2 b q;clear b q l;go_wp2_with fail;go_loopw [1,7,8] (fun F G a1 wr=>F=.int .i64 (c:Int)/\G=.int .i64 0/\wr=E) (fun _ _ _ _=>0)
 case atStart=>exact ⟨rfl,rfl,rfl⟩
 case round=>obtain ⟨rfl,rfl,rfl⟩:=hrel;go_wp2_with fail;have s:=Bk.ne g.out.blk g.out.tree dC;have e:=n.out;have t:=(VisK.set_tree g.out.tree (wrap64 (C+1))).alloc (.cells #[.int .i64 (-1),.int .i64 (-1),.int .i64 0,(a.length:Int),.int .i64 ((a.count true:Nat):Int),.int .i64 0,.int .i64 0,o] 205);refine (aB7 o a c _ ((g.out.blk.far s _).alloc _) n.out y.out).mono ?_;rintro k a0 ⟨rfl,r⟩;rw [x.out];have u:=(v.out.trans t).below r;have w:=lhd u;clear t r u s e;go_wp2_with fail;go_ret2;exact ⟨rfl,w.out⟩
def aEW (b:Nat) (a:Array Value):Value->World->Prop:=fun _ c=>Bk c b 230 a
theorem xN (c:Nat) (b:Array Value):Stb (aEW c b):=fun _ _ _ a d=>Bk.below a d (Bk.lt a)
def nT (a:Int) (b c:Nat):Array Value:=#[.int .i64 a,.int .u64 (b:Int),.int .u64 (c:Int)]
theorem xP (d:Int) (b c a:Nat) (e:a < 2):(nT d b c)[1+a]?=some (.int .u64 (((if a=0 then b else c):Nat):Int)):=by
 obtain rfl | rfl:a=0∨a=1:=oM;rfl;rfl
theorem xO (c:Int) (d e b a:Nat) (f:a < 2):(nT c d e).setIfInBounds (1+a) (.int .u64 (b:Int))=nT c (if a=0 then b else d) (if a=0 then e else b):=by
 obtain rfl | rfl:a=0∨a=1:=oM;rfl;rfl
theorem aAF {e:World} {a:Nat} {g:Int} {c d:Nat} (f:Bk e a 230 (nT g c d)) (b:Int):Bk (e.setCell ⟨a,0,none⟩ (.int .i64 b)) a 230 (nT b c d):=f.set 0 _
structure InsI (l l':List Bool) (k:Nat) (b:Bool) (i a:Nat) (bb:Bool) (u0 u1:Nat):Prop where
 at0:i=0->k < 64/\a=k/\bb=b/\u0=w0 l/\u1=w1 l
 at1:i=1->a < 64/\u0=w0 l'/\rG u1 a bb=w1 l'/\u1 < 18446744073709551616
 at2:i=2->u0=w0 l'/\u1=w1 l'
 le:i<=2
theorem uT (b:Nat) (d:List Bool) (e:Nat) (c:Bool) (t:World) (a3:Bk t b 230 (gY d)) (aC:d.length<=127) (H:e<=d.length):
 Calls prog 249 #[b,(e:Int),.bool c] t fun n ab=>n=.returned (.int .i64 0)/\Bk ab b 230 (gY (aP d e c))/\Keep (fun c=>c=b) t ab:=by
 obtain ⟨k,U⟩:=eqx d.length;have a7:(aP d e c).length=k+1:=by rw [eF _ _ H,U]
 have E:Bk t b 230 (nT (k:Int) (w0 d) (w1 d)):=by rw [<-U];exact a3
 have a5:∀M,Bk M b 230 (nT ((k+1:Nat):Int) (w0 (aP d e c)) (w1 (aP d e c)))->Bk M b 230 (gY (aP d e c)):=fun M r=>by unfold gY;rw [a7];exact r
 have Z:=nD d;have P:=mX d oM;have aF:∃K z:Nat,(e:Int)/ 64=(K:Int)/\(e:Int)% 64=(z:Int)/\InsI d (aP d e c) e c K z c (w0 d) (w1 d):=by by_cases an:e < 64;exact ⟨0,e,by omega,by omega,fun _=>⟨an,rfl,rfl,rfl,rfl⟩,fun n=>by omega,fun n=>by omega,by omega⟩;obtain ⟨O,C⟩:=aKw d e c H oM oM;exact ⟨1,e - 64,by omega,by omega,fun n=>by omega,fun _=>⟨by omega,O.symm,C.symm,P⟩,fun n=>by omega,by omega⟩
 have a8:∀a o i f g,a < 2->InsI d (aP d e c) e c a o i f g->o < 64/\(if a=0 then f else g) < 18446744073709551616/\InsI d (aP d e c) e c (a+1) 0 ((if a=0 then f else g).testBit 63) (if a=0 then rG f o i else f) (if a=0 then g else rG g o i):=by intro a o i f g aS r;obtain rfl | rfl:a=0∨a=1:=oM;obtain ⟨B,rfl,rfl,rfl,rfl⟩:=r.at0 rfl;obtain ⟨O,C⟩:=aKv d o i H oM B;have ay:(w0 d).testBit 63=d.getD 63 false:=(by rw [jA];simp);simp only [if_true,ay];exact ⟨B,Z,fun n=>by omega,fun _=>⟨by omega,O.symm,C.symm,P⟩,fun n=>by omega,by omega⟩;obtain ⟨B,ao,ap,aq⟩:=r.at1 rfl;simp only [show ¬((1:Nat)=0) by omega,if_false];exact ⟨B,aq,fun n=>by omega,fun n=>by omega,fun _=>⟨ao,ap⟩,by omega⟩
 obtain ⟨K,z,aT,aN,a0⟩:=aF;have aB:¬((e:Int) > (k:Int)):=oM;have aA:decide ((e:Int) < 0)=false:=by simp
 have aW:((k:Int)==128)=false:=by rw [zCb];omega
 have A:t.cell? ⟨b,0,none⟩=some (.int .i64 (k:Int)):=(E.cell 0).trans rfl;have aQ:=E.lt;have aX:k<=127:=oM;obtain ⟨ae,ai,al,ac⟩:=hqq4 E a5 a8 a0;clear a3 E a5 Z P a8 a0 a7 U aC H;go_enter func249,ntmps249;go_wp2_with fail;clear A aA aB;go_loopw [2,7,8] (fun j l X wr=>∃(a o:Nat) (i:Bool) (f g:Nat),j=.bool i/\l=.int .i64 (o:Int)/\X=.int .i64 (a:Int)/\InsI d (aP d e c) e c a o i f g/\Bk wr b 230 (nT (k:Int) f g)/\Keep (fun c=>c=b) t wr) (fun _ _ X _=>2 -(intOf X).toNat)
 case atStart=>exact ⟨K,z,c,_,_,rfl,rfl,rfl,ac.out,ae.out,Keep.refl _ _⟩
 case round=>
  obtain ⟨a,s,i,f,g,rfl,rfl,rfl,u,q,I⟩:=hrel;by_cases T:a < 2
  · obtain ⟨aE,a9,Q⟩:=al.out a s i f g T u;have G:=xP (k:Int) f g a T;have V:=fun l=>xO (k:Int) f g l a T;obtain ⟨j,x⟩:∃j,(if a=0 then f else g)=j:=⟨_,rfl⟩;obtain ⟨l,J⟩:=eqx (rG j s i);obtain ⟨N,a4⟩:=eqx (nT (k:Int) f g)
    have a1:InsI d (aP d e c) e c (a+1) 0 (j.testBit 63) (if a=0 then l else f) (if a=0 then g else l):=by
        have aw:(if a=0 then rG f s i else f)=if a=0 then l else f:=by
         split
         · rw [<-J,<-x,zBx (by assumption)]
         rfl
        have ax:(if a=0 then g else rG g s i)=if a=0 then g else l:=by
         split;rfl
         · rw [<-J,<-x,zBw (by assumption)]
        rw [x,aw,ax] at Q;exact Q
    rw [x] at G a9;rw [a4] at G V q;have aU:(a:Int) < 2:=oM;obtain ⟨Y,ak,ah,am,ad,L⟩:=hqq6 G V q J a1 I;clear u Q q I G V x J a4 a1;go_wp2_with fail;refine wp_region_any kR ?_;refine bH [38,39,40,41,42,43,44,45,46,47,48,37,49,50,51,52,53,2] (fun c=>c=b) 17 [7,17] (fun w1=>Bk w1 b 230 N) (aEW b (N.setIfInBounds (1+a) (.int .u64 (l:Int)))) [is b,is (a:Int),is b,is (a:Int),is b,is (.pointer (some ⟨b,1,none⟩)),is (.pointer (some ⟨b,1+a,none⟩)),is (.int .u64 (j:Int)),is (s:Int),is (.bool i),is (.tuple #[.int .u64 (l:Int),.bool (j.testBit 63)]),is (.tuple #[.int .u64 (l:Int),.bool (j.testBit 63)]),is (.int .u64 (l:Int)),is (.bool (j.testBit 63)),is b,is (.pointer (some ⟨b,1,none⟩)),is (.pointer (some ⟨b,1+a,none⟩)),cX,is (.bool (j.testBit 63))] _ _ rfl kR kR (ah.out) (fun w1 aZ r _ az=>Bk.below r az r.lt) (xN _ _) tA0 ?_ ?_
    · refine aO ?_;refine pH3 0 (.pointer (some ⟨b,0,none⟩)) ?_;refine pH3 8 (.int .i64 (a:Int)) ?_;refine pH3 0 (.pointer (some ⟨b,0,none⟩)) ?_;refine pH3 8 (.int .i64 (a:Int)) ?_;refine pV3 2 40 ?_;refine pV3 4 42 ?_;refine pW3 5 43 3 41 ?_;refine sC3 (fun _ y _ R _ _ _ m _ _ _ v=>?_) ?_
      · have w:=R rfl;have aH:_=_:=m 6 44 kR rfl;have A:y.cell? ⟨b,1+a,none⟩=some (.int .u64 (j:Int)):=(w.cell (1+a)).trans Y.out;go_simp;exact kq v rfl
      refine pH3 7 (.int .i64 (s:Int)) ?_;refine pH3 2 (.bool i) ?_;refine sC3 (fun _ y _ _ _ _ _ m _ _ _ v=>?_) ?_
      · have aI:_=_:=m 7 45 kR rfl;have aJ:_=_:=m 8 46 kR rfl;have aK:_=_:=m 9 47 kR rfl;go_simp;refine (aJf j s i a9 aE y).mono ?_;rintro n b0 ⟨rfl,rfl⟩;rw [am.out];exact kq v rfl
      refine pV3 10 48 ?_;refine pV3 11 37 ?_;refine pV3 11 37 ?_;refine pV3 0 38 ?_;refine pV3 14 51 ?_;refine pW3 15 52 1 39 ?_;refine sC3 (fun _ y _ R _ _ _ m _ _ _ v=>?_) ?_
      · have w:=R rfl;have aM:_=_:=m 16 53 kR rfl;have aL:_=_:=m 12 49 kR rfl;have A:y.cell? ⟨b,1+a,none⟩=some (.int .u64 (j:Int)):=(w.cell (1+a)).trans Y.out;have av:=w.frozen (1+a);go_simp;exact v (.bool true) _ (aV (Keep.setCell (F:=fun c=>c=b) (Keep.refl _ _) (p:=⟨b,1+a,none⟩) (.inl rfl) _)) (w.set (1+a) _)
      refine pV3 13 50 ?_;exact aD
    · intro au W D m a2;replace D:Keep (fun c=>c=b) wr W:=kD D;have ar:au (.tmp 2)=.bool (j.testBit 63):=m 18 2 rfl;obtain ⟨aY,aa⟩:∃aG,(aEW b (N.setIfInBounds (1+a) (.int .u64 (l:Int)))) aG W:=a2 17 dC;simp only [zqq];rw [ar];clear m a2;have S:Bk W b 230 _:=aa;rw [ak.out] at S;have a6:=L.out.trans D;obtain ⟨ag,aj⟩:=hqq2 S a6;clear S a6 aa D;go_wp2_with fail;go_roundw
      case rel=>exact ⟨a+1,0,_,_,_,rfl,rfl,by go_num,ad.out,ag.out,aj.out⟩
      case measure=>simp [intOf];omega
  · obtain rfl:a=2:=(by have:=u.le;omega);obtain ⟨rfl,rfl⟩:=u.at2 rfl;have A:wr.cell? ⟨b,0,none⟩=some (.int .i64 (k:Int)):=(q.cell 0).trans rfl;have av:=q.frozen 0;have aR:=q.lt;obtain ⟨af,L⟩:=hqq2 q I;clear q I u;have C:IntKind.i64.wrap ((k:Int)+1)=((k+1:Nat):Int):=(by rw [IntKind.wrap_i64];omega);go_wp2_with fail;go_ret;exact ⟨rfl,ai.out _ (aAF af.out _),Keep.setCell (F:=fun c=>c=b) L.out (p:=⟨b,0,none⟩) (.inl rfl) _⟩
theorem uU (b:Nat) (c:List Bool) (d:Nat) (G:World) (aa:Bk G b 230 (gY c)) (T:c.length<=128) (O:d < c.length):
 Calls prog 265 #[b,(d:Int)] G fun y aC=>y=.returned (.tuple #[.bool (c.getD d false),.int .i64 0])/\Bk aC b 230 (gY (aG c d))/\Keep (fun i=>i=b) G aC:=by
 have au:=sU b c d G aa O;obtain ⟨j,ae⟩:=eqx c.length;have aX:(aG c d).length+1=j:=by rw [cW _ O,ae]
 have ab:Bk G b 230 (nT (j:Int) (w0 c) (w1 c)):=by rw [<-ae];exact aa
 have aq:∀a3,Bk a3 b 230 (nT ((j:Int) - 1) (w0 (aG c d)) (w1 (aG c d)))->Bk a3 b 230 (gY (aG c d)):=fun a3 C=>by unfold gY;rw [show (((aG c d).length:Nat):Int)=(j:Int) - 1 by omega];exact C
 have an:=nD c;have ao:=mX c T;obtain ⟨t,f,bj,aN,bl,aP,aW⟩:∃t f:Nat,(d:Int)/ 64=(t:Int)/\(d:Int)% 64=(f:Int)/\t < 2/\f < 64/\d=64*t+f:=⟨d / 64,d % 64,by omega,by omega,by omega,by omega,by omega⟩;have aA:t=0->w0 (aG c d)=nS (w0 c) f ((w1 c).testBit 0)/\w1 (aG c d)=nS (w1 c) 0 false/\(w0 c).testBit f=c.getD d false:=fun y=>by have w:d=f:=oM;have m:=aKN c d O T oM;rw [gS,zBq,<-w];refine ⟨m.1,m.2,?_⟩;rw [jA,zBz oM,Bool.true_and]
 have av:t=1->w0 (aG c d)=w0 c/\w1 (aG c d)=nS (w1 c) f false/\(w1 c).testBit f=c.getD d false:=fun y=>by have w:d - 64=f:=oM;have m:=cut_hi c d O T oM;rw [w] at m;refine ⟨m.1,m.2,?_⟩;rw [gS];congr 1;omega
 have aS:=ab.lt;have bn:j<=128:=oM;have aQ:0 < nS 0 0 true:=dC;obtain ⟨ak,aH,aK,aI,aE,aj⟩:=hqq6 ab aq aA av an ao;clear aa ab aq an ao aA av aX ae T O aQ aW;go_enter func265,ntmps265;go_wp2_with fail;refine au.mono ?_;rintro y b3 ⟨rfl,ac⟩;have ap:=ak.out.below ac aS;have az:Keep (fun i=>i=b) G b3:=Keep.of_below ac;obtain ⟨aF,aJ⟩:=hqq2 ap az;clear au ac ap az ak;go_wp2_with fail;go_loopw [7,8] (fun e ai wr=>∃(a u:Nat) (v:Bool),e=.bool v/\ai=.int .i64 (a:Int)/\t<=a/\a < 2/\(a=1->v=false/\u=w1 c)/\(a=0->v=(w1 c).testBit 0/\u=nS (w1 c) 0 false)/\Bk wr b 230 (nT (j:Int) (w0 c) u)/\Keep (fun i=>i=b) G wr) (fun _ ai _=>(intOf ai).toNat)
 case atStart=>exact ⟨1,w1 c,false,rfl,rfl,by omega,by omega,fun _=>⟨rfl,rfl⟩,fun y=>by omega,aF.out,aJ.out⟩
 case round=>
  obtain ⟨a,u,v,rfl,rfl,bk,ax,m,a9,H,S⟩:=hrel;by_cases ar:t < a
  · obtain rfl:a=1:=oM;obtain ⟨rfl,rfl⟩:=m rfl;obtain rfl:t=0:=oM;obtain ⟨a,aw⟩:∃a,a=1:=⟨1,rfl⟩;have l:=xP (j:Int) (w0 c) (w1 c) a oM;have q:=fun k=>xO (j:Int) (w0 c) (w1 c) k a oM;rw [zBw oM] at l;obtain ⟨e,U⟩:=eqx (w1 c);obtain ⟨k,E⟩:=eqx (nS e 0 false);obtain ⟨B,N⟩:=eqx (nT (j:Int) (w0 c) (w1 c));have V:=aj.out;rw [N] at l q H;rw [U] at l V;have aB:nS (w1 c) 0 false=k:=(by rw [U];exact E);obtain ⟨I,af⟩:=eqx (e.testBit 0);have M:(w1 c).testBit 0=I:=(by rw [U];exact af);have aL:=lhd af;have aU:(a:Int) < 2:=oM;obtain ⟨J,a1,Y,a2,aM,W,Z⟩:=hqq7 l q H E aB M S;have bm:a < 2:=oM;have ay:¬a=0:=oM;have aT:¬(a:Int)<=0:=oM;rw [show ((1:Nat):Int)=(a:Int) by omega];have al:=lhd aw;have bf:¬(a:Int)<=0:=aT;have bg:(a:Int) > 0:=oM;clear H S l q U E aB N m a9 M aw ar af;go_wp2_with fail;refine wp_region_any kR ?_;refine bH [22,23,24,25,26,27,28,29,30,31,21,32,33,34,35,36,7] (fun i=>i=b) 16 [7,16] (fun w1=>Bk w1 b 230 B) (aEW b (B.setIfInBounds (1+a) (.int .u64 (k:Int)))) [is b,is (a:Int),is b,is (a:Int),is b,is (.pointer (some ⟨b,1,none⟩)),is (.pointer (some ⟨b,1+a,none⟩)),is (.int .u64 (e:Int)),is (.bool false),is (.tuple #[.int .u64 (k:Int),.bool I]),is (.tuple #[.int .u64 (k:Int),.bool I]),is (.int .u64 (k:Int)),is (.bool I),is b,is (.pointer (some ⟨b,1,none⟩)),is (.pointer (some ⟨b,1+a,none⟩)),cX,is (.bool I)] _ _ rfl kR kR (Y.out) (fun w1 b1 C _ ad=>Bk.below C ad C.lt) (xN _ _) tA0 ?_ ?_
    · refine aO ?_;refine pH3 0 (.pointer (some ⟨b,0,none⟩)) ?_;refine pH3 8 (.int .i64 (a:Int)) ?_;refine pH3 0 (.pointer (some ⟨b,0,none⟩)) ?_;refine pH3 8 (.int .i64 (a:Int)) ?_;refine pV3 2 24 ?_;refine pV3 4 26 ?_;refine pW3 5 27 3 25 ?_;refine sC3 (fun _ r _ D _ _ _ g _ _ _ n=>?_) ?_
      · have o:=D rfl;have b4:_=_:=g 6 28 kR rfl;have R:r.cell? ⟨b,1+a,none⟩=some (.int .u64 (e:Int)):=(o.cell (1+a)).trans J.out;go_simp;exact kq n rfl
      refine pH3 7 (.bool false) ?_;refine sC3 (fun _ r _ _ _ _ _ g _ _ _ n=>?_) ?_
      · have b5:_=_:=g 7 29 kR rfl;have b6:_=_:=g 8 30 kR rfl;go_simp;refine (aDS e 0 false V oM r).mono ?_;rintro y b2 ⟨rfl,rfl⟩;rw [a2.out,aL.out];exact kq n rfl
      refine pV3 9 31 ?_;refine pV3 10 21 ?_;refine pV3 10 21 ?_;refine pV3 0 22 ?_;refine pV3 13 34 ?_;refine pW3 14 35 1 23 ?_;refine sC3 (fun _ r _ D _ _ _ g _ _ _ n=>?_) ?_
      · have o:=D rfl;have b8:_=_:=g 15 36 kR rfl;have b7:_=_:=g 11 32 kR rfl;have R:r.cell? ⟨b,1+a,none⟩=some (.int .u64 (e:Int)):=(o.cell (1+a)).trans J.out;have am:=o.frozen (1+a);go_simp;exact n (.bool true) _ (aV (Keep.setCell (F:=fun i=>i=b) (Keep.refl _ _) (p:=⟨b,1+a,none⟩) (.inl rfl) _)) (o.set (1+a) _)
      refine pV3 12 33 ?_;exact aD
    · intro a8 A x g L;replace x:Keep (fun i=>i=b) wr A:=kD x;have a7:a8 (.tmp 7)=.bool I:=g 17 7 rfl;obtain ⟨b0,Q⟩:∃ah,(aEW b (B.setIfInBounds (1+a) (.int .u64 (k:Int)))) ah A:=L 16 dC;simp only [zqq];rw [a7];clear g L;have s:Bk A b 230 _:=Q;rw [a1.out,zBw ay,zBw ay] at s;have P:=Z.out.trans x;obtain ⟨X,a0⟩:=hqq2 s P;have K:IntKind.i64.wrap ((a:Int) - 1)=((0:Nat):Int):=(by have:=al.out;rw [IntKind.wrap_i64];omega);clear s P Q x;go_wp2_with fail;go_roundw
      case rel=>exact ⟨0,_,_,rfl,rfl,by omega,by omega,fun y=>by omega,fun _=>⟨W.out.symm,aM.out.symm⟩,X.out,a0.out⟩
      case measure=>have:=al.out;simp [intOf];omega
  · obtain rfl:a=t:=oM
    have aR:∃e:Nat,(nT (j:Int) (w0 c) u)[1+a]?=some (.int .u64 (e:Int))/\e < 18446744073709551616/\(nT (j:Int) (w0 c) u).setIfInBounds (1+a) (.int .u64 ((nS e f v:Nat):Int))=nT (j:Int) (w0 (aG c d)) (w1 (aG c d))/\e.testBit f=c.getD d false:=by
        have l:=xP (j:Int) (w0 c) u a ax;have q:=fun k=>xO (j:Int) (w0 c) u k a ax;obtain z | z:a=0∨a=1:=oM
        · obtain ⟨K,w⟩:=a9 z;obtain ⟨a4,a5,a6⟩:=aK.out z;rw [zBx z] at l;refine ⟨w0 c,l,aE.out,?_,a6⟩;rw [q,zBx z,zBx z,a4,a5,K,w]
        · obtain ⟨K,w⟩:=m z;obtain ⟨a4,a5,a6⟩:=aI.out z;have ag:¬a=0:=oM;rw [zBw ag] at l;refine ⟨u,l,by rw [w];exact aj.out,?_,by rw [w];exact a6⟩;rw [q,zBw ag,zBw ag,a4,a5,K,w]
    obtain ⟨e,l,V,q,M⟩:=aR;obtain ⟨bq,aZ⟩:=eqx f;subst aZ;have aY:=aP;obtain ⟨k,E⟩:=eqx (nS e f v);obtain ⟨B,N⟩:=eqx (nT (j:Int) (w0 c) u);rw [E] at q;rw [N] at l q H;obtain ⟨J,a1,Y,a2,W,Z⟩:=hqq6 l q H E M S;have bh:¬(a:Int) > (a:Int):=oM;have aU:(a:Int) < 2:=oM;have bp:IntKind.i64.wrap (a:Int)=(a:Int):=(by rw [IntKind.wrap_i64];omega);have bo:((d:Int)).tmod 64=(f:Int):=(by rw [Int.tmod_eq_emod_of_nonneg oM];exact aN);clear H S l q E N m a9 M ar;go_wp2_with fail;refine wp_region_any kR ?_;refine bH [38,39,40,41,42,43,44,45,46,47,48,49,50,51,37,52,53,54,55,56,7] (fun i=>i=b) 20 [9,20] (fun w1=>Bk w1 b 230 B) (aEW b (B.setIfInBounds (1+a) (.int .u64 (k:Int)))) [is b,is (d:Int),is (a:Int),is b,is (d:Int),is (a:Int),is b,is (.pointer (some ⟨b,1,none⟩)),is (.pointer (some ⟨b,1+a,none⟩)),is (.int .u64 (e:Int)),is (d:Int),is (f:Int),is (.bool v),is (.tuple #[.int .u64 (k:Int),.bool (e.testBit f)]),is (.tuple #[.int .u64 (k:Int),.bool (e.testBit f)]),is (.int .u64 (k:Int)),is (.bool (e.testBit f)),is b,is (.pointer (some ⟨b,1,none⟩)),is (.pointer (some ⟨b,1+a,none⟩)),cX,is (.bool (e.testBit f))] _ _ rfl kR kR (Y.out) (fun w1 b1 C _ ad=>Bk.below C ad C.lt) (xN _ _) tA0 ?_ ?_
    · refine aO ?_;refine pH3 0 (.pointer (some ⟨b,0,none⟩)) ?_;refine pH3 1 (.int .i64 (d:Int)) ?_;refine pV3 1 39 ?_;refine pH3 0 (.pointer (some ⟨b,0,none⟩)) ?_;refine pH3 1 (.int .i64 (d:Int)) ?_;refine pV3 4 42 ?_;refine pV3 3 41 ?_;refine pV3 6 44 ?_;refine pW3 7 45 5 43 ?_;refine sC3 (fun _ r _ D _ _ _ g _ _ _ n=>?_) ?_
      · have o:=D rfl;have b9:_=_:=g 8 46 kR rfl;have R:r.cell? ⟨b,1+a,none⟩=some (.int .u64 (e:Int)):=(o.cell (1+a)).trans J.out;go_simp;exact kq n rfl
      refine pH3 1 (.int .i64 (d:Int)) ?_;refine pV3 10 48 ?_;refine pH3 7 (.bool v) ?_;refine sC3 (fun _ r _ _ _ _ _ g _ _ _ n=>?_) ?_
      · have ba:_=_:=g 9 47 kR rfl;have bb:_=_:=g 11 49 kR rfl;have bc:_=_:=g 12 50 kR rfl;go_simp;refine (aDS e f v V aY r).mono ?_;rintro y b2 ⟨rfl,rfl⟩;rw [a2.out];exact kq n rfl
      refine pV3 13 51 ?_;refine pV3 14 37 ?_;refine pV3 14 37 ?_;refine pV3 0 38 ?_;refine pV3 17 54 ?_;refine pW3 18 55 2 40 ?_;refine sC3 (fun _ r _ D _ _ _ g _ _ _ n=>?_) ?_
      · have o:=D rfl;have be:_=_:=g 19 56 kR rfl;have bd:_=_:=g 15 52 kR rfl;have R:r.cell? ⟨b,1+a,none⟩=some (.int .u64 (e:Int)):=(o.cell (1+a)).trans J.out;have am:=o.frozen (1+a);go_simp;exact n (.bool true) _ (aV (Keep.setCell (F:=fun i=>i=b) (Keep.refl _ _) (p:=⟨b,1+a,none⟩) (.inl rfl) _)) (o.set (1+a) _)
      refine pV3 16 53 ?_;exact aD
    · intro a8 A x g L;replace x:Keep (fun i=>i=b) wr A:=kD x;have a7:a8 (.tmp 7)=.bool (e.testBit f):=g 21 7 rfl;obtain ⟨b0,Q⟩:∃ah,(aEW b (B.setIfInBounds (1+a) (.int .u64 (k:Int)))) ah A:=L 20 dC;simp only [zqq];rw [a7];clear g L;have s:Bk A b 230 _:=Q;rw [a1.out] at s;have P:=Z.out.trans x;have R:A.cell? ⟨b,0,none⟩=some (.int .i64 (j:Int)):=(s.cell 0).trans rfl;have am:=s.frozen 0;have bi:=s.lt;obtain ⟨X,a0⟩:=hqq2 s P;have K:IntKind.i64.wrap ((j:Int) - 1)=(j:Int) - 1:=(by rw [IntKind.wrap_i64];omega);rw [W.out];clear s P Q x;go_wp2_with fail;go_ret2;exact ⟨rfl,aH.out _ (aAF X.out _),Keep.setCell (F:=fun i=>i=b) a0.out (p:=⟨b,0,none⟩) (.inl rfl) _⟩
theorem aBG (b:Nat) (d:List Bool) (a:World) (i:TreeAt a b d):
 Calls prog 241 #[b] a fun g j=>g=.returned (.int .i64 ((d.count true:Nat):Int))/\Below a.heap.size a j:=by
 obtain ⟨w,A,⟨rfl,B,c⟩|⟨z,c,y,n,x,e⟩⟩:=i
 · have f:a.cell? ⟨b,2,none⟩=some (.int .i64 (-1)):=(c.cell 2).trans rfl;clear c;go_enter func241,ntmps241;go_wp2;go_ret;exact ⟨rfl,Below.refl _ _⟩
 · obtain ⟨k,l,f,m,o,p,q,r,s,t,u,v⟩:=e.cells;clear e;go_enter func241,ntmps241;go_wp2;go_quiet (fail);go_wp2;go_ret;exact ⟨rfl,⟨rfl,rfl,rfl,zAs _,fun _ _=>rfl⟩⟩
theorem TabW.visk {a:Nat} {b d:World} (f:TabW b) (j:VisK (fun e=>e=a) b d) (k:1 < a) (i:1 < b.heap.size):TabW d:=
 fun c g=>(j.2.cell (p:=⟨1,c,none⟩) i (by show ¬(1=a);omega)).trans (f c g)
theorem aIM {a:List Bool} {b:Bool} {c:Nat} (d:a[c]?=some b):(a.take c).count b < a.count b:=by
 have i:=(zAc.1 d).1;have e:a=a.take (c+1)++a.drop (c+1):=(zAu _ _).symm;have f:a.count b=(a.take (c+1)).count b+(a.drop (c+1)).count b:=by rw [<-zCc,zAu]
 have g:(a.take (c+1)).count b=(a.take c).count b+1:=by rw [zAv,d,zCc];simp
 omega
theorem yA (c:Nat) (a:List Bool) (d f:Nat) (b:Bool) (g:World) (l:TreeAt g c a) (w:a[d]?=some b) (v:(a.take d).count b=f) (A:TabW g) (an:1 < c):
 Calls prog 202 #[c,(f:Int),.bool b] g fun i aA=>i=.returned (.int .i64 (d:Int))/\VisK (fun b=>b=c) g aA:=by
 have Y:a.length<=128:=by
  obtain ⟨T,x,⟨rfl,az,m⟩|⟨u,m,V⟩⟩:=l
  · simp
  exact m
 have ar:=(zAc.1 w).1;have a1:=aIM w;rw [v] at a1;have a0:=qI a;have av:∃s,Bk g c 202 s/\3 < s.size:=by obtain ⟨T,x,⟨rfl,az,m⟩|⟨u,m,U,ai,t,V⟩⟩:=l;exact ⟨_,m,by simp⟩;exact ⟨_,V.tree,by simp⟩
 obtain ⟨s,q,am⟩:=av;have ax:1 < g.heap.size:=A.pos;have G:=VisK.set_tree q 0;have a3:=l.vis G.1;have aT:=q.lt;have R:g.cell? ⟨c,3,none⟩=some s[3]:=by rw [q.cell 3];simp [am]
 have S:=q.frozen 3;obtain ⟨k,z⟩:=eqx a.length;obtain ⟨j,E⟩:=eqx (a.count true);rw [z,E] at a0;have a2:f < (if b then j else k - j):=by cases b;simp;omega;simp;omega
 have ak:k<=128:=oM;have aq:j<=k:=oM;have aW:f<=128:=by rw [<-v];exact zAk zBv (by rw [zAj];omega)
 have aZ:d<=128:=oM;obtain ⟨a6,F⟩:=eqx ((if b then j else k - j));rw [F] at a2;obtain ⟨L,y,aF,P,a8,O,ae,af,ag⟩:=hqq9 G l Y a3 z w v E F;obtain ⟨a9,aG⟩:=hqq2 A a2;clear l Y G a3 q z ar a1 a0 w v E F A;go_enter func202,ntmps202;go_wp2_with fail;clear R S;refine (eP c a _ P.out).mono ?_;rintro i b1 ⟨rfl,n⟩;rw [a8.out];have H:=L.out.below n;have a4:=y.out.vis H.1;obtain ⟨M,Q⟩:=hqq2 H a4;clear H a4 L P n;go_wp2_with fail;refine (aBG c a _ Q.out).mono ?_;rintro i b2 ⟨rfl,W⟩;rw [af.out];have I:=M.out.below W;have a5:=y.out.vis I.1;obtain ⟨N,ah⟩:=hqq2 I a5;clear I a5 M Q W;go_wp2_with fail;refine (wW k j b _ ak aq).mono ?_;rintro i aB ⟨rfl,X⟩;rw [ag.out];have J:=N.out.below X;have au:=y.out.vis J.1;have ap:¬a6<=f:=oM;have aY:decide (a6<=f)=false:=zBy ap;obtain ⟨T,x,⟨C,_,_⟩|⟨C,n,U,ai,t,e⟩⟩:=au
 · have u:=O.out;rw [C] at u;simp at u
 obtain ⟨aH,aI,aJ,R,aK,aL,aM,aN,aO,aP,aQ,aR⟩:=e.cells;have aX:=e.row.lt;have aU:=e.tree.lt;have aV:c≠U:=e.row.bk_ne e.tree dC;have S:=e.tree.frozen 3;obtain ⟨r,a7,ab⟩:=hqq3 e n J;clear e n C J X N ah;go_wp2_with fail;go_loopw [1,7,8] (fun aC aD aE wr=>aC=.int .i64 (f:Int)/\aD=.int .i64 0/\aE=.int .i64 0/\wr=aB) (fun _ _ _ _=>0)
 case atStart=>exact ⟨rfl,rfl,rfl,rfl⟩
 case round=>
  obtain ⟨rfl,rfl,rfl,rfl⟩:=hrel;go_wp2_with fail;refine (wW 0 0 b _ oM nL).mono ?_;rintro i b3 ⟨rfl,o⟩;have aj:(if b=true then 0 else 0 - 0:Nat)=0:=by cases b <;> rfl
  rw [aj];have ao:=Bk.ne r.out.blk r.out.tree dC;have K:=(VisK.set_tree r.out.tree (wrap64 (x+1))).alloc (.cells #[.int .i64 (-1),.int .i64 (-1),.int .i64 0,(a.length:Int),.int .i64 ((a.count true:Nat):Int),.int .i64 0,.int .i64 0,t] 205);have ay:=K.below o;have D:=(r.out.blk.far (p:=⟨c,3,none⟩) ao (.int .i64 (wrap64 (x+1)))).alloc (.cells #[.int .i64 (-1),.int .i64 (-1),.int .i64 0,(a.length:Int),.int .i64 ((a.count true:Nat):Int),.int .i64 0,.int .i64 0,t] 205);have Z:=D.below o D.lt;have b0:=o.cell (p:=⟨wr.heap.size,7,none⟩) (by simp [World.setCell]);have B:=((ab.out.trans K).below o);obtain ⟨aa,ac,ad⟩:=hqq3 (a9.out.visk B an ax) B Z;clear ay D Z K B o;go_wp2_with fail;refine (uS t a b d f _ ad.out a7.out O.out ae.out aa.out).mono ?_;rintro i b4 ⟨rfl,al⟩;have aw:=ac.out.below al;have aS:IntKind.i64.wrap (d:Int)=(d:Int):=by rw [IntKind.wrap_i64];omega
  go_wp2_with fail;go_ret;exact ⟨fB oM,aw⟩
end Go.Proofs.YthldmddkfbijhaaGreatDoor
