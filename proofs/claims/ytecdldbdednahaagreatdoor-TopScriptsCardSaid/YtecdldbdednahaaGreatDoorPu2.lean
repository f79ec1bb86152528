/- Lemmas of the walk. Conditions: each its own. -/
import Derived.Test.YtecdldbdednahaaGreatDoorPu0
import Derived.Test.YtecdldbdednahaaGreatDoorSht
import Derived.Test.YtecdldbdednahaaGreatDoorProg
set_option linter.all false
set_option maxRecDepth 100000
set_option maxHeartbeats 4000000
open Go.Proofs.Tryz
namespace Go.Proofs.YtecdldbdednahaaGreatDoor
section
def lW (b) {n a} (f:n<=a):bK b n<=bK b a:=by
 induction a with
 | zero=>obtain rfl:n=0:=oM
         exact zAs _
 | succ a e=>
   rw [dP];by_cases d:n<=a;have:=e d;omega;obtain rfl:n=a+1:=oM;rw [dP];exact zAs _
def aFF (a:Nat) {e:Nat}:∀ {n:Nat},e < bK a n->∃b,b < n/\a.testBit b=true/\bK a b=e
 | 0,h=>by rw [oU] at h;omega
 | n+1,h=>by
   by_cases f:e < bK a n;obtain ⟨b,l,i,j⟩:=aFF a f;exact ⟨b,by omega,i,j⟩
   · rw [dP] at h;cases d:a.testBit n with
     | false=>rw [d] at h;simp at h;omega
     | true=>
       rw [d] at h;simp at h;exact ⟨n,by omega,d,by omega⟩
def aID (b) {p a} (e:b.testBit p=true) (f:b.testBit a=true) (i:bK b p=bK b a):p=a:=by
 rcases Nat.lt_trichotomy p a with d | d | d;have:=lW b (show p+1<=a from d);rw [dP,e] at this;simp at this;omega;exact d;have:=lW b (show a+1<=p from d);rw [dP,f] at this;simp at this;omega
def aFO {a} (f:0 < a) (e:a < 2 ^ 64):∃b,a=2 ^ Lib.ctz 64 a*(2*b+1)/\Lib.ctz 64 a < 64:=by
 obtain ⟨b,i,j⟩:=Lib.ctzFrom_spec 64 a f e;have d:Lib.ctz 64 a=Lib.ctzFrom 64 a:=by unfold Lib.ctz;rw [zBw oM]
 exact ⟨b,by rw [d];exact i,by rw [d];exact j⟩
def aBe (k b a):(2 ^ k*(2*b+1)).testBit a=if a < k then false else if a=k then true else b.testBit (a - k - 1):=by
 rw [Nat.mul_comm,Nat.testBit_mul_two_pow];by_cases f:a < k;rw [zBx f,zBy oM];rfl
 · rw [zBw f,zBz oM,Bool.true_and];by_cases d:a=k
   · rw [zBx d];subst d;rw [Nat.sub_self];simp [Nat.testBit_zero]
   · rw [zBw d];obtain ⟨e,i⟩:∃e,a - k=e+1:=⟨a - k - 1,by omega⟩;rw [i,Nat.testBit_succ];have:(2*b+1)/ 2=b:=oM;rw [this];congr 1
def aIu (k b a):(2 ^ k*(2*b+1) - 1).testBit a=if a < k then true else if a=k then false else b.testBit (a - k - 1):=by
 have l:0 < 2 ^ k:=Nat.two_pow_pos k;have i:2 ^ k*(2*b+1) - 1=2 ^ k*(2*b)+(2 ^ k - 1):=by rw [Nat.mul_add,zBl];omega
 rw [i,Nat.testBit_two_pow_mul_add _ oM];by_cases d:a < k
 · rw [zBx d,zBx d,Nat.testBit_two_pow_sub_one,zBz d]
 · rw [zBw d,zBw d];by_cases e:a=k
   · rw [zBx e];subst e;rw [Nat.sub_self];simp [Nat.testBit_zero]
   · rw [zBw e];obtain ⟨f,j⟩:∃f,a - k=f+1:=⟨a - k - 1,by omega⟩;rw [j,Nat.testBit_succ];have:2*b / 2=b:=oM;rw [this];congr 1
def aGV {a} (j:0 < a) (i:a < 2 ^ 64) (b):(a&&&(a - 1)).testBit b=(a.testBit b&&decide (b≠Lib.ctz 64 a)):=by
 obtain ⟨m,f,l⟩:=aFO j i;generalize Lib.ctz 64 a=k at f l;subst f;rw [Nat.testBit_and,aBe,aIu];by_cases d:b < k
 · simp [d]
 · by_cases e:b=k
   · simp [e]
   · simp [d,e]
def aFV {a} (f:0 < a) (e:a < 2 ^ 64):a.testBit (Lib.ctz 64 a)=true/\∀b,b < Lib.ctz 64 a->a.testBit b=false:=by
 obtain ⟨l,d,i⟩:=aFO f e;generalize Lib.ctz 64 a=k at d i⊢;subst d;refine ⟨?_,fun b j=>?_⟩
 · rw [aBe,zBw oM,zBx rfl]
 · rw [aBe,zBx j]
def clr (a:Nat):Nat->Nat
 | 0=>a
 | i+1=>clr a i&&&(clr a i - 1)
def aEZ (b a):clr b a<=b:=by
 induction a with
 | zero=>exact zAs _
 | succ a d=>exact zAk Nat.and_le_left d
def aBt {a:Nat} (r:a < 2 ^ 64) {p:Nat} (o:a.testBit p=true):∀b,b<=bK a p->∀d,(clr a b).testBit d=(a.testBit d&&decide (b<=bK a d))
 | 0,_,d=>by simp [clr]
 | b+1,hi,d=>by
   have f:=aBt r o b oM;have q:(clr a b).testBit p=true:=(by rw [f,o,zBz oM];rfl);have l:0 < clr a b:=by
    rcases zBa (clr a b) with i | i
    · rw [i] at q;simp at q
    exact i
   have m:clr a b < 2 ^ 64:=Nat.lt_of_le_of_lt (aEZ a b) r;obtain ⟨e,s⟩:=aFV l m;show (clr a b&&&(clr a b - 1)).testBit d=_;rw [aGV l m];generalize Lib.ctz 64 (clr a b)=k at e s;rw [f,zBd,zCa] at e;obtain ⟨e,E⟩:=e;have C:bK a k=b:=by
    by_cases j:b < bK a k
    · obtain ⟨z,t,u,v⟩:=aFF a j;have:=s z t;rw [f,u,v] at this;simp at this
    omega
   rw [f];cases y:a.testBit d with
   | false=>rfl
   | true=>
     rw [Bool.true_and,Bool.true_and,Bool.eq_iff_iff,zBd,zCa,zCa,zCa];constructor;rintro ⟨j,x⟩;by_cases B:bK a d=b;exact absurd (aID a y e oM) x;omega;intro j;refine ⟨by omega,?_⟩;rintro rfl;omega
def aFX {x} (e:x < 2 ^ 64) {p i} (d:x.testBit p=true) (b:i<=bK x p):0 < clr x i:=by
 have:=aBt e d i b p;rw [d,zBz b] at this;rcases zBa (clr x i) with a | a
 · rw [a] at this;simp at this
 exact a
def aKp {x} (e:x < 2 ^ 64) {p a} (d:x.testBit p=true) (q:bK x p=a):Lib.ctz 64 (clr x a)=p:=by
 have l:=aFX e d (i:=a) oM;have m:clr x a < 2 ^ 64:=Nat.lt_of_le_of_lt (aEZ x a) e;obtain ⟨j,o⟩:=aFV l m;have f:=aBt e d a oM;rcases Nat.lt_trichotomy (Lib.ctz 64 (clr x a)) p with b | b | b;rw [f,zBd,zCa] at j;have:=lW x (show Lib.ctz 64 (clr x a)+1<=p from b);rw [dP,j.1] at this;simp at this;omega;exact b
 · have:=o p b;rw [f,d,zBz oM] at this;simp at this
def fT (a:Nat) (b:Bool):Nat:=if b then a else 18446744073709551615 - a
def aCg (a b) (d:a < 18446744073709551616):fT a b < 18446744073709551616:=by
 unfold fT;split <;> omega
def lO (a d) (i:a < 18446744073709551616) {b} (f:b < 64):(fT a d).testBit b=(a.testBit b==d):=by
 unfold fT;cases d with
 | true=>simp
 | false=>
   have e:18446744073709551615 - a=2 ^ 64 -(a+1):=oM;simp only [Bool.false_eq_true,if_false];rw [e,Nat.testBit_two_pow_sub_succ oM,zBz f];cases a.testBit b <;> rfl
def mP (e:Nat) (a:List Bool) (d:Bool):∀n,n<=a.length->(∀b,b < n->∀c,a[b]?=some c->e.testBit b=(c==d))->bK e n=(a.take n).count d
 | 0,_,_=>by simp [oU]
 | n+1,hn,h=>by have f:a[n]?=some (a[n]' oM):=zAa oM;rw [dP,mP e a d n oM (fun b i=>h b oM),zAv,f,zCc,h n oM _ f];simp [List.count_cons]
def aD1 (b) {a} (e:a < 64) {c} (d:b[a]?=some c):(w0 b).testBit a=c:=by
 unfold w0;rw [kQ,zAb,zBs,zBx e,d];rfl
def aHI (a) {q c} (b:a[64+q]?=some c):(w1 a).testBit q=c:=by
 unfold w1;rw [kQ,zAb,zBt,b];rfl
def aKV {a b p d} (q:a.length<=128) (l:a[p]?=some b) (o:(a.take p).count b=d) (e:p < 64):
 (fT (w0 a) b).testBit p=true/\bK (fT (w0 a) b) p=d/\d < bK (fT (w0 a) b) 64:=by
 have j:=nO a;have r:=(zAc.1 l).1;have f:(fT (w0 a) b).testBit p=true:=by rw [lO _ _ j e,aD1 a e l];simp
 have i:bK (fT (w0 a) b) p=d:=by rw [<-o];exact mP _ a b p oM fun t s c m=>by rw [lO _ _ j oM,aD1 a oM m]
 refine ⟨f,i,?_⟩;have:=lW (fT (w0 a) b) (show p+1<=64 by omega);rw [dP,f,i] at this;simp at this;omega
def aKW {a b p f} (s:a.length<=128) (m:a[p]?=some b) (v:(a.take p).count b=f) (u:64<=p):
 ∃n k,bK (fT (w0 a) b) 64=n/\n<=f/\f - n=k/\(fT (w1 a) b).testBit (p - 64)=true/\bK (fT (w1 a) b) (p - 64)=k/\k < bK (fT (w1 a) b) 64:=by
 have t:=nO a;have l:=nJ a s;have x:=(zAc.1 m).1;have r:bK (fT (w0 a) b) 64=(a.take 64).count b:=mP _ a b 64 oM fun o e c d=>by rw [lO _ _ t e,aD1 a e d]
 have y:(a.take p).count b=(a.take 64).count b+((a.drop 64).take (p - 64)).count b:=by
  have:a.take p=a.take 64++(a.drop 64).take (p - 64):=by rw [<-List.take_add];congr 1;omega
  rw [this,zCc]
 have i:(fT (w1 a) b).testBit (p - 64)=true:=by rw [lO _ _ l oM,aHI a (q:=p - 64) (by rw [show 64+(p - 64)=p by omega];exact m)];simp
 have j:bK (fT (w1 a) b) (p - 64)=((a.drop 64).take (p - 64)).count b:=
  mP _ (a.drop 64) b (p - 64) (by rw [zAw];omega) fun o e c d=>by rw [zBt] at d;rw [lO _ _ l oM,aHI a d]
 refine ⟨_,_,r,by omega,rfl,i,by rw [j];omega,?_⟩;have:=lW (fT (w1 a) b) (show p - 64+1<=64 by omega);rw [dP,i,j] at this;simp at this;omega
end
section
open Go.RowKit
def TabW (w:World):Prop:=TabAt 1 Lib.deBruijn64tab w
def TabW.below {B w w'} (b:TabW w) (k:Below B w w') (d:1 < B):TabW w':=fun a e=>(k.cell (p:=⟨1,a,none⟩) d).trans (b a e)
def TabW.pos {w} (b:TabW w):1 < w.heap.size:=by
 have d:=b 0 dC;rcases zBe 1 w.heap.size with a | a;exact a
 · exfalso;have:w.heap[1]?=none:=Array.getElem?_eq_none a;simp [World.cell?,this] at d
def aLv (a p) (f:a < 18446744073709551616) (e:Lib.ctz 64 a=p) (w) (d:TabW w):
 Calls prog 256 #[.int .u64 (a:Int)] w fun b w'=>b=.returned (.int .i64 (p:Int))/\w'=w:=by
 have:=Any7.bits_TrailingZeros64 shTz a f w (fun _=>d);rw [e] at this;exact this
def iR (a p d) (v:a < 18446744073709551616) (t:a.testBit p=true) (s:bK a p=d) (G:d < bK a 64) (w) (l:TabW w) (V:1 < w.heap.size):
 Calls prog 241 #[.int .u64 (a:Int),(d:Int)] w fun q w'=>q=.returned (.int .i64 (p:Int))/\Below w.heap.size w w':=by
 have F:=aKp (x:=a) v t s;have u:=fun e U=>aFX (x:=a) v t (i:=e) U;rw [s] at u;have H:=aEZ a;have S:=oV a 64;obtain ⟨N,O,z,Z,M⟩:=hqq5 F u H G l;clear F u H t s l;have a2:decide ((d:Int) < 0)=false:=by simp
 go_enter func241,ntmps241;go_wp2_with fail;refine (iZ _ 1 1 _ [a] _ (Rd.made _ _ 1 1 _ rfl) (by simpa using v) oM).mono ?_;rintro q W ⟨rfl,r⟩;have C:Below w.heap.size w W:=by first |(rw [r];exact bR.alloc nL _)|(rw [<-r];exact bR.alloc nL _)
 have J:(([a].map fun a=>bK a 64).sum)=bK a 64:=by simp
 rw [J];obtain ⟨X,I⟩:=eqx (bK a 64);rw [I] at G S⊢;have a3:decide ((d:Int)>=(X:Int))=false:=by simp;omega
 clear J I;have y:=lhd C;clear r C;go_wp2_with fail;go_loopw [0,15] (fun Y e wr=>∃b:Nat,b<=d/\e=.int .i64 (b:Int)/\Y=.int .u64 ((clr a b:Nat):Int)/\wr=W) (fun _ e _=>d -(intOf e).toNat)
 case atStart=>exact ⟨0,zAp _,rfl,rfl,rfl⟩
 case round=>
  obtain ⟨b,a5,rfl,rfl,rfl⟩:=hrel;by_cases a4:b < d
  · have B:=O.out b oM;have m:=z.out b;have o:clr a (b+1)=clr a b&&&(clr a b - 1):=rfl;obtain ⟨j,f⟩:=eqx (clr a b);rw [f] at B m o⊢;obtain ⟨L,K⟩:=eqx (j - 1);rw [K] at o;have a0:IntKind.u64.wrap ((j:Int) - 1)=(L:Int):=(by rw [ko];omega);have a1:=aDd j L oM oM;have R:=lhd o;clear f K o B m;go_wp2_with fail;go_roundw
    case rel=>exact ⟨b+1,by omega,by go_num,by rw [R.out],by first | rfl | trivial⟩
    case measure=>simp [intOf];omega
  · obtain rfl:b=d:=oM;have m:=z.out b;have E:=N.out;obtain ⟨j,f⟩:=eqx (clr a b);rw [f] at m E⊢;have l:=M.out.below y.out V;clear f;go_wp2_with fail;refine (aLv j p oM E _ l).mono ?_;rintro q a6 ⟨rfl,rfl⟩;go_wp2_with fail;go_ret;exact ⟨rfl,y.out⟩
def aJH (a) (d:a < 18446744073709551616):18446744073709551615 ^^^ a=18446744073709551615 - a:=by
 have f:18446744073709551615=2 ^ 64 - 1:=dC;have i:18446744073709551615 - a=2 ^ 64 -(a+1):=oM;rw [i,f];apply Nat.eq_of_testBit_eq;intro b;rw [Nat.testBit_xor,Nat.testBit_two_pow_sub_one,Nat.testBit_two_pow_sub_succ d];by_cases e:b < 64
 · simp [e]
 · have:a.testBit b=false:=Nat.testBit_lt_two_pow (zAl (show a < 2 ^ 64 from d) (zBp dC (show 64<=b by omega)));simp [e,this]
def aKH (a:Nat) (b:a < 18446744073709551616):bits .xor .u64 IntKind.u64.max (a:Int)=((fT a false:Nat):Int):=by
 have d:IntKind.u64.max=((18446744073709551615:Nat):Int):=dC;rw [d,bits_xor_u64_nat _ _ oM b];congr 1;unfold fT;simp only [Bool.false_eq_true,if_false];exact aJH a b
def vP (l q o p e w) (a4:Bk w l 245 (iS q)) (a1:q.length<=128) (ap:q[p]?=some o) (ao:(q.take p).count o=e) (aw:TabW w):
 Calls prog 220 #[l,(e:Int),.bool o] w fun z w'=>z=.returned (.int .i64 (p:Int))/\Below w.heap.size w w':=by
 have aC:=(zAc.1 ap).1;have G:1 < w.heap.size:=aw.pos;have a6:=aCg _ o (nO q);have a7:=aCg _ o (nJ q a1);have aN:=nO q;have aO:=nJ q a1;have r:=a4.cell 0;have V:=a4.cell 1;have X:=a4.cell 2;have aZ:decide ((e:Int) < 0)=false:=by simp
 have aX:p < q.length:=aC;have aq:∀a9:Nat,(([a9].map fun a9=>bK a9 64).sum)=bK a9 64:=fun a9=>by simp
 obtain ⟨U,Y⟩:=eqx (fT (w0 q) o);obtain ⟨E,Z⟩:=eqx (fT (w1 q) o);unfold iS at r V X;obtain ⟨aa,ak⟩:=eqx (w0 q);obtain ⟨ab,al⟩:=eqx (w1 q);obtain ⟨aU,am⟩:=eqx q.length;have aQ:=ix0 (aa:Int) (ab:Int);have aR:=ix1 (aa:Int) (ab:Int);rw [Y] at a6;rw [Z] at a7;rw [ak] at aN Y;rw [al] at aO Z;rw [am,ak,al] at r V X;rw [am] at aX;have ad:=lhd aw;replace r:w.cell? l=some (.int .i64 (aU:Int)):=r.trans rfl;have t:=a4.lt;obtain ⟨F,ac⟩:=hqq2 r a1;have aL:e<=p:=by rw [<-ao];exact zAk zBv (by rw [zAj];omega)
 have aF:=lhd aL;clear aL;have az:=fun B=>aKV (b:=o) a1 ap ao B;have an:=fun B=>aKW (b:=o) a1 ap ao B;rw [ak,Y] at az an;rw [al,Z] at an;obtain ⟨y,aA⟩:=eqx (bK U 64);obtain ⟨aD,aB⟩:=eqx (bK E 64);obtain ⟨x,ay⟩:=eqx (e - y);have aK:64<=p->y<=e/\E.testBit (p - 64)=true/\bK E (p - 64)=x/\x < aD:=fun B=>by obtain ⟨n,k,aI,aW,a0,a2,av,aJ⟩:=an B;rw [aA] at aI;rw [aB] at aJ;subst aI;rw [ay] at a0;subst a0;exact ⟨aW,a2,av,aJ⟩
 have aP:o=false->bits .xor .u64 IntKind.u64.max (aa:Int)=(U:Int)/\bits .xor .u64 IntKind.u64.max (ab:Int)=(E:Int):=fun ax=>by rw [<-Y,<-Z,ax];exact ⟨aKH aa aN,aKH ab aO⟩
 have aM:o=true->U=aa/\E=ab:=fun ax=>by rw [<-Y,<-Z,ax];simp [fT]
 obtain ⟨aH,ae,af,ag,aG,aY,ah⟩:=hqq7 az aK aA aB ay am aC;clear az an aK aA aB ay am ap ao a4 a1 aw Y Z ak al aC;obtain ⟨aj,ai⟩:=hqq2 aP aM;clear aP aM;cases o with
 | true=>
   replace ai:=ai.out rfl;clear aj;go_enter func220,ntmps220;go_wp2_with fail;go_loopw [1,21] (fun a8 R wr=>∃C:Nat,R=.int .i64 (C:Int)/\((C=0/\a8=.int .i64 (e:Int))∨(C=1/\64<=p/\a8=.int .i64 (x:Int)))/\Below w.heap.size w wr) (fun _ R _=>2 -(intOf R).toNat)
   case atStart=>exact ⟨0,rfl,.inl ⟨rfl,rfl⟩,kh _ _⟩
   case round=>
    obtain ⟨C,rfl,(⟨rfl,rfl⟩|⟨rfl,a3,rfl⟩),f⟩:=hrel
    all_goals
        obtain ⟨aS,aT⟩:=ai;subst aS;subst aT
    · clear V X aR;have v:=f.size;have K:=(f.cell (p:=l) t).trans r;clear r;go_wp2_with fail;refine (iZ _ 1 1 _ [U] _ (Rd.made _ _ 1 1 _ rfl) (by simpa using a6) oM).mono ?_;rintro z W ⟨rfl,m⟩;have a:Below w.heap.size w W:=(by first |(rw [m];exact f.alloc v _)|(rw [<-m];exact f.alloc v _));rw [aq,af.out];have L:=(a.cell (p:=l) t).trans F.out;clear m K;by_cases B:p < 64
      · obtain ⟨i,j,d⟩:=aH.out B;have s:=d;rw [af.out] at s;have N:e < y:=s;have M:IntKind.i64.wrap (p:Int)=(p:Int):=(by rw [wI0];omega);obtain ⟨H,I,J⟩:=hqq3 i j d;clear i j d s;go_wp2_with fail;refine (iR U p e a6 H.out I.out J.out _ (ad.out.below a G) (zAl G a.size)).mono ?_;rintro z ar ⟨rfl,O⟩;have u:=a.trans (O.mono a.size);have au:=(u.cell (p:=l) t).trans F.out;clear L;go_wp2_with fail;go_ret;exact ⟨rfl,u⟩
      · obtain ⟨S,i,j,d⟩:=ae.out oM;have N:¬e < y:=oM;have aV:decide (e < y)=false:=zBy N;have M:IntKind.i64.wrap ((e:Int) -(y:Int))=(x:Int):=(by have:=aG.out;have a0:=ac.out;have a2:=aF.out;have av:=ah.out;rw [wI0];omega);clear S i j d;go_wp2_with fail;go_roundw
        case rel=>exact ⟨1,by go_num,.inr ⟨by first | rfl | trivial,by omega,by go_num⟩,a⟩
        case measure=>simp [intOf]
    · clear V X aQ;have v:=f.size;have K:=(f.cell (p:=l) t).trans r;clear r;go_wp2_with fail;refine (iZ _ 1 1 _ [E] _ (Rd.made _ _ 1 1 _ rfl) (by simpa using a7) oM).mono ?_;rintro z W ⟨rfl,m⟩;have a:Below w.heap.size w W:=(by first |(rw [m];exact f.alloc v _)|(rw [<-m];exact f.alloc v _));rw [aq,ag.out];have L:=(a.cell (p:=l) t).trans F.out;clear m K;obtain ⟨S,i,j,d⟩:=ae.out a3;have s:=d;rw [<-ag.out] at d;have N:x < aD:=s;have M:IntKind.i64.wrap (64+((p - 64:Nat):Int))=(p:Int):=(by have a0:=ac.out;have a2:=ah.out;rw [wI0];omega);obtain ⟨aE,a5⟩:=eqx (p - 64);rw [a5] at M i j;obtain ⟨H,I,J⟩:=hqq3 i j d;clear S i j d s a5 a3;go_wp2_with fail;refine (iR E aE x a7 H.out I.out J.out _ (ad.out.below a G) (zAl G a.size)).mono ?_;rintro z ar ⟨rfl,O⟩;have u:=a.trans (O.mono a.size);have au:=(u.cell (p:=l) t).trans F.out;clear L;go_wp2_with fail;go_ret;exact ⟨rfl,u⟩
 | false=>
   replace aj:=aj.out rfl;clear ai;go_enter func220,ntmps220;go_wp2_with fail;go_loopw [1,21] (fun a8 R wr=>∃C:Nat,R=.int .i64 (C:Int)/\((C=0/\a8=.int .i64 (e:Int))∨(C=1/\64<=p/\a8=.int .i64 (x:Int)))/\Below w.heap.size w wr) (fun _ R _=>2 -(intOf R).toNat)
   case atStart=>exact ⟨0,rfl,.inl ⟨rfl,rfl⟩,kh _ _⟩
   case round=>
    obtain ⟨C,rfl,(⟨rfl,rfl⟩|⟨rfl,a3,rfl⟩),f⟩:=hrel
    all_goals
        obtain ⟨aS,aT⟩:=aj
    · clear V X aR;have v:=f.size;have K:=(f.cell (p:=l) t).trans r;clear r;go_wp2_with fail;refine (iZ _ 1 1 _ [U] _ (Rd.made _ _ 1 1 _ rfl) (by simpa using a6) oM).mono ?_;rintro z W ⟨rfl,m⟩;have a:Below w.heap.size w W:=(by first |(rw [m];exact f.alloc v _)|(rw [<-m];exact f.alloc v _));rw [aq,af.out];have L:=(a.cell (p:=l) t).trans F.out;clear m K;by_cases B:p < 64
      · obtain ⟨i,j,d⟩:=aH.out B;have s:=d;rw [af.out] at s;have N:e < y:=s;have M:IntKind.i64.wrap (p:Int)=(p:Int):=(by rw [wI0];omega);obtain ⟨H,I,J⟩:=hqq3 i j d;clear i j d s;go_wp2_with fail;refine (iR U p e a6 H.out I.out J.out _ (ad.out.below a G) (zAl G a.size)).mono ?_;rintro z ar ⟨rfl,O⟩;have u:=a.trans (O.mono a.size);have au:=(u.cell (p:=l) t).trans F.out;clear L;go_wp2_with fail;go_ret;exact ⟨rfl,u⟩
      · obtain ⟨S,i,j,d⟩:=ae.out oM;have N:¬e < y:=oM;have aV:decide (e < y)=false:=zBy N;have M:IntKind.i64.wrap ((e:Int) -(y:Int))=(x:Int):=(by have:=aG.out;have a0:=ac.out;have a2:=aF.out;have av:=ah.out;rw [wI0];omega);clear S i j d;go_wp2_with fail;go_roundw
        case rel=>exact ⟨1,by go_num,.inr ⟨by first | rfl | trivial,by omega,by go_num⟩,a⟩
        case measure=>simp [intOf]
    · clear V X aQ;have v:=f.size;have K:=(f.cell (p:=l) t).trans r;clear r;go_wp2_with fail;refine (iZ _ 1 1 _ [E] _ (Rd.made _ _ 1 1 _ rfl) (by simpa using a7) oM).mono ?_;rintro z W ⟨rfl,m⟩;have a:Below w.heap.size w W:=(by first |(rw [m];exact f.alloc v _)|(rw [<-m];exact f.alloc v _));rw [aq,ag.out];have L:=(a.cell (p:=l) t).trans F.out;clear m K;obtain ⟨S,i,j,d⟩:=ae.out a3;have s:=d;rw [<-ag.out] at d;have N:x < aD:=s;have M:IntKind.i64.wrap (64+((p - 64:Nat):Int))=(p:Int):=(by have a0:=ac.out;have a2:=ah.out;rw [wI0];omega);obtain ⟨aE,a5⟩:=eqx (p - 64);rw [a5] at M i j;obtain ⟨H,I,J⟩:=hqq3 i j d;clear S i j d s a5 a3;go_wp2_with fail;refine (iR E aE x a7 H.out I.out J.out _ (ad.out.below a G) (zAl G a.size)).mono ?_;rintro z ar ⟨rfl,O⟩;have u:=a.trans (O.mono a.size);have au:=(u.cell (p:=l) t).trans F.out;clear L;go_wp2_with fail;go_ret;exact ⟨rfl,u⟩
def aHh (b:World->World->Prop) (p:Value->World->Prop):Prop:=∀a w w',p a w->b w w'->p a w'
def jA (a:World->World->Prop) (c):aHh a (is c):=fun _ _ _ b _=>b
def kM (a:World->World->Prop):aHh a cJ:=fun _ _ _ _ _=>trivial
def cS {f:World->World->Prop} {d} (i:∀p∈d,aHh f p):∀b e w w',Vs d b e w->f w w'->Vs d b e w':=by
 intro b e w w' a j;unfold Vs at a⊢;rw [zAb] at a⊢;rcases hl:d[b]? with _ | p;rw [hl] at a;exact a;rw [hl] at a;exact i p (zAd hl) e w w' a j
end
section
open Go.RowKit Go
section
variable {P : Program} {ops : Array Oper} {Q : Exit -> Act -> World -> Prop} {md : Region.Mode}
def bX (n b:Nat):Array Bool:=((List.range b).map fun a=>decide (a < n)).toArray
def aBm (n a) (m:n<=a):(bX n a).toList.count false=a - n:=by
 unfold bX;rw [List.toList_toArray]
 induction a with
 | zero=>simp
 | succ a l=>
   rw [List.range_succ,zAz,zCc];rcases zBe a n with b | b
   · have:n=a+1:=oM;subst this;have d:(List.map (fun j=>decide (j < a+1)) (List.range a)).count false=0:=(by rw [List.count_eq_zero];intro f;obtain ⟨o,i,e⟩:=zAy.1 f;have:=zCj.1 i;simp at e;omega);rw [d];simp
   rw [l b];have:¬(a < n):=oM;simp [this];omega
def bV {a i b w} (f:Region.ready md ops i= []) (e:Q .normal b w):wpAny P md ops Q a i b w:=by
 cases a with
 | zero=>exact ⟨f,e⟩
 | succ a=>exact ⟨fun _=>e,fun j d=>by rw [f] at d;cases d⟩
def bQ {f a b w i} (j:Region.ready md ops a= [i]) (l:wpOp P ops Q i (wpAny P md ops Q f (a.setIfInBounds i true)) b w):wpAny P md ops Q (f+1) a b w:=
 ⟨fun d=>(by rw [j] at d;cases d),fun m e=>(by rw [j] at e;cases List.mem_singleton.1 e;exact l)⟩
def qF (n G) (Y:Nat->World->World->Prop) (O:Nat->World->Prop) (R H a2) (aw:n<=ops.size) (a7:iT md ops H.tmps.size=true) (aD:((List.range ops.size).all fun k=>decide (k < n)||(List.range n).all fun a=>upB md ops ops.size k a)=true) (al:G a2) (an:∀a,O a a2) (ak:∀b w w',b < n->G w->Y b w w'->G w') (am:∀a b w w',b < n->a≠b->upB md ops ops.size b a=false->O a w->G w->Y b w w'->O a w') (aA:∀a b F w w',b < n->a≠b->uD md ops a b=false->upB md ops ops.size a b=false->R a F w->G w->Y b w w'->R a F w') (aB:∀b i,b < n->ops[b]?=some i->cX P ops Q md G Y O R H b i) (af:∀q w ai,G w->q.tmps.size=H.tmps.size->q.defers=H.defers->
  (∀x,(∀(k:Nat) (p:Oper),k < n->ops[k]?=some p->p.dst≠some x)->q.tmps.getD x undef=H.tmps.getD x undef)->
  (∀a i,a < n->ops[a]?=some i->∃F,(∀u,i.dst=some u->q.tmps.getD u undef=F)/\R a F w)->wpAny P md ops Q (ops.size - n+ai) (bX n ops.size) q w):
 wpAny P md ops Q ops.size (Array.replicate ops.size false) H a2:=by
 have aG:∀f:Array Bool,f.size=ops.size->Region.ready md ops f= []->∀a,a < ops.size->f.getD a false=true:=by
  intro f N a9 a
  induction a using Nat.strongRecOn with
  | _ a ab=>
    intro j;cases B:f.getD a false with
    | true=>rfl
    | false=>
      exfalso;have a1:a∈Region.ready md ops f:=(by refine mem_ready.2 ⟨?_,ops[a],zAq j,fun o r J=>?_⟩;have a5:a < f.size:=oM;simp [a5] at B⊢;exact B;have:=(eG a7 (zAq j)).1 o r J;exact ab o.on this oM);rw [a9] at a1;cases a1
 have aF:∀C f q w,f.size=ops.size->f.toList.count false<=C->Loose7 md ops G O R H f q w->(∀k,n<=k->f.getD k false=false)->wpAny P md ops Q C f q w:=by
  intro C
  induction C with
  | zero=>
    intro f q w N B d X
    have I:∀a,a < ops.size->f.getD a false=true:=by
        intro a j;have a5:a < f.size:=oM;cases M:f.getD a false with
        | true=>rfl
        | false=>
          exfalso;have:false∈f.toList:=(by simp [a5] at M;exact M ▸(by simp));have:=List.count_pos_iff.2 this;omega
    have ay:n=ops.size:=by
        rcases zBe n ops.size with v | v
        · have z:=I n v;rw [X n nL] at z;cases z
        omega
    have r:f=bX n ops.size:=by
        apply Array.ext
        · simp [bX,N]
        intro a v z;have s:=I a oM;simp [v] at s;simp [bX,s];omega
    have s:=af q w 0 d.world d.size d.defers (fun x L=>d.old x fun k p e l=>absurd l (L k p (by have:=(zAh.1 e).1;omega) e)) fun a i j m=>d.val a i m (I a (zAh.1 m).1);rw [<-r,<-ay,Nat.sub_self] at s;exact s
  | succ C ab=>
    intro f q w N B d X;by_cases I:∀a,a < n->f.getD a false=true
    · have r:f=bX n ops.size:=by
       apply Array.ext
       · simp [bX,N]
       intro a v z;rcases zBe a n with y | y;have s:=I a y;simp [v] at s;simp [bX,s];exact y;have s:=X a y;simp [v] at s;simp [bX,s];omega
      have aI:ops.size - n<=C+1:=(by rw [r,aBm _ _ aw] at B;exact B);have s:=af q w (C+1 -(ops.size - n)) d.world d.size d.defers (fun x L=>d.old x fun k p e l=>by
       rcases zBe k n with y | y;exact absurd l (L k p y e)
       · exact X k y) fun a i j m=>d.val a i m (I a j)
      rw [<-r,show ops.size - n+(C+1 -(ops.size - n))=C+1 by omega] at s;exact s
    refine ⟨fun a9=>absurd (fun a j=>aG f N a9 a oM) I,fun b av=>?_⟩;obtain ⟨ad,i,m,Z⟩:=mem_ready.1 av;have V:b < ops.size:=(zAh.1 m).1;have K:b < f.size:=oM;have E:f.getD b false=false:=(by simp [K] at ad⊢;exact ad);have a0:b < n:=(by rcases zBe b n with y | y;exact y;exfalso;refine I fun a j=>?_;have ae:=zBf.1 aD b (zCj.2 V);have aj:¬(b < n):=oM;simp only [aj,decide_false,Bool.false_or] at ae;exact iU d.shut _ b a i m Z (zBf.1 ae a (zCj.2 j)));refine aB b i a0 m q w d.world (d.pre b i m E) d.size d.defers (fun x L=>d.old x fun k p e l=>?_) (fun o r J p u e l=>by obtain ⟨F,v,z⟩:=d.val o.on p e (Z o r J);rw [v u l];exact z) _ fun F w' a3 ao=>?_
    · rcases wH L e l with rfl |⟨o,r,J,au⟩;exact E
      · cases t:f.getD k false with
        | false=>rfl
        | true=>
          have:=d.shut k p e t o r J;rw [au,E] at this;cases this
    · refine ab _ _ _ (by simpa using N) ?_ ?_ (fun k t=>by rw [getD_set_ne false (by omega:b≠k)];exact X k t);have M:f.toList[b]'(by simpa using K)=false:=(by simp [K] at E⊢;exact E);rw [Array.toList_setIfInBounds,List.count_set (by simpa using K),M];simp;have a1:false∈f.toList:=M ▸ zBj _;have:=List.count_pos_iff.2 a1;rw [<-Array.count_toList];omega
      · have aC:(q.put i.dst F).tmps.size=H.tmps.size:=by
          rw [<-d.size];cases i.dst with
          | none=>rfl
          | some u=>simp [Act.put]
        refine ⟨ak b w w' a0 d.world a3,fun a p e j=>?_,aC,?_,fun x L=>?_,fun a p e j=>?_,fun k p e t o r J=>?_⟩
        · have ag:a≠b:=fun o=>by rw [o,bP _ _ K] at j;cases j
          rw [getD_set_ne false ag.symm] at j;refine am a b w w' a0 ag ?_ (d.pre a p e j) d.world a3;cases aa:upB md ops ops.size b a with
          | false=>rfl
          | true=>
            have:=iU d.shut _ b a i m Z aa;rw [j] at this;cases this
        · rw [<-d.defers];cases i.dst <;> rfl
        · have ax:i.dst≠some x:=fun l=>by have:=L b i m l;rw [bP _ _ K] at this;cases this
          have az:=d.old x fun k p e l=>by
           have:=L k p e l;cases t:f.getD k false with
           | false=>rfl
           | true=>
             by_cases ah:b=k
             · subst ah;rw [E] at t;cases t
             · rw [getD_set_ne false ah,t] at this;cases this
          rw [<-az];cases a8:i.dst with
          | none=>rfl
          | some u=>
            have a4:u≠x:=fun d=>ax (by rw [a8,d]);simp [Act.put,zAm,a4]
        · rcases eX _ _ _ j with rfl | S
          · rw [m] at e;injection e with e;subst e;refine ⟨F,fun u l=>?_,ao⟩;have ar:=((eG a7 m).2 u l).1;rw [l];have:u < q.tmps.size:=(by rw [d.size];exact ar);simp [Act.put,zAm,this]
          · by_cases a6:a=b
            · subst a6;rw [E] at S;cases S
            obtain ⟨aH,aE,M⟩:=d.val a p e S
            have ap:uD md ops a b=false:=by
              cases B:uD md ops a b with
              | false=>rfl
              | true=>
                exfalso;unfold uD at B;rw [e] at B;obtain ⟨o,r,z⟩:=List.any_eq_true.1 B;simp only [zBd,zCq] at z;have:=d.shut a p e S o (Array.mem_toList_iff.1 r) z.1;rw [z.2,E] at this;cases this
            have aq:upB md ops ops.size a b=false:=by
              cases aa:upB md ops ops.size a b with
              | false=>rfl
              | true=>
                have:=iU d.shut _ a b p e (d.shut a p e S) aa;rw [E] at this;cases this
            refine ⟨aH,fun u l=>?_,aA _ _ _ _ _ a0 a6 ap aq M d.world a3⟩;rw [<-aE u l];cases a8:i.dst with
            | none=>rfl
            | some ac=>
              have a4:ac≠u:=fun d=>a6 (((eG a7 m).2 ac a8).2 a p e (d ▸ l));simp [Act.put,zAm,a4]
        rcases eX _ _ _ t with rfl | t;rw [m] at e;injection e with e;subst e;have v:=Z o r J;by_cases U:k=o.on;rw [<-U];exact bP _ _ K _;rw [getD_set_ne false U];exact v;have v:=d.shut k p e t o r J;by_cases U:b=o.on;rw [<-U];exact bP _ _ K _;rw [getD_set_ne false U];exact v
 refine aF _ _ _ _ (by simp) (by simp) ⟨al,fun b _ _ _=>an b,rfl,rfl,fun _ _=>rfl,fun a i m j=>?_,fun k p e t=>?_⟩ (fun k t=>by
  rw [zAm];rcases zBe k ops.size with d | d
  · simp [d]
  · rw [Array.getElem?_eq_none (by simpa using d)];rfl)
 · have V:a < ops.size:=(zAh.1 m).1;simp [V] at j
 · have V:k < ops.size:=(zAh.1 e).1;simp [V] at t
def aCe (n u d) (l:Nat->World->World->Prop) (m:Nat->World->Prop) (e f r) (J:(ops.toList.take n).filterMap (·.dst)=u) (R:n<=ops.size) (O:iT md ops f.tmps.size=true) (a0:((List.range ops.size).all fun k=>decide (k < n)||(List.range n).all fun a=>upB md ops ops.size k a)=true) (E:d r) (H:∀a,m a r) (C:∀b w w',b < n->d w->l b w w'->d w') (G:∀a b w w',b < n->a≠b->upB md ops ops.size b a=false->m a w->d w->l b w w'->m a w') (V:∀a b q w w',b < n->a≠b->uD md ops a b=false->e a q w->d w->l b w w'->e a q w') (X:∀b s,b < n->ops[b]?=some s->cX P ops Q md d l m e f b s) (K:∀(z:Operand->Value) w v,d w->(∀a o,a < n->((ops[a]?).bind (·.dst))=some o->e a (z (.tmp o)) w)->wpAny P md ops Q (ops.size - n+v) (bX n ops.size) (dK z u f) w):
 wpAny P md ops Q ops.size (Array.replicate ops.size false) f r:=by
 refine qF n d l m e f r R O a0 E H C G (fun a b q w w' i x B _=>V a b q w w' i x B) X fun t w v F Y I S a1=>?_;have i:=K t.eval w v F fun a o L j=>by
  cases y:ops[a]? with
  | none=>rw [y] at j;cases j
  | some s=>
    rw [y] at j;obtain ⟨q,i,x⟩:=a1 a s L y;have:=i o j;change e a (t.tmps.getD o undef) w;rw [this];exact x
 rw [<-mE t f u Y I fun a2 Z=>S a2 fun k p M U j=>Z ?_] at i;exact i;rw [<-J];refine List.mem_filterMap.2 ⟨p,?_,j⟩;have N:(ops.toList.take n)[k]?=some p:=(by rw [zBs,zBx M,Array.getElem?_toList];exact U);exact zAd N
def bY {e a b w} {d:Act->World->Prop} (j:ops[e]?=some a) (i:a.guard=none) (f:Oper.upon P a b d Q ((execOp b.eval a).run P w)):wpOp P ops Q e d b w:=by
 unfold wpOp;simp only [j];have l:Region.wanted a (yielded ops b.tmps)=true:=by unfold Region.wanted;rw [i]
 rw [zBx l];exact .inl f
end
def cK {P:Program} {ops:Array Oper} {Q:Exit->Act->World->Prop} {md:Region.Mode} (n:Nat) (s:List Nat) (d:Nat->Prop) (b:Nat) (u:List Nat) (o:World->Prop) (r:Value->World->Prop) (q:List (Value->World->Prop)) (j:Act) (e:World)
 (J:(ops.toList.take n).filterMap (·.dst)=s) (M:n<=ops.size) (L:iT md ops j.tmps.size=true) (V:((List.range ops.size).all fun k=>decide (k < n)||(List.range n).all fun a=>upB md ops ops.size k a)=true)
 (R:(u.all fun a=>a==b||upB md ops ops.size b a)=true)
 (O:o e) (N:∀w w',o w->Keep d e w->Grow w w'->o w') (I:Stb r) (S:∀p∈q,uE d p)
 (U:∀i C,i < n->ops[i]?=some C->cX P ops Q md (Keep d e) (qB d b) (fun a w=>u.contains a=true->o w) (VsJ b r q) j i C)
 (K:∀(x:Operand->Value) w f,Keep d e w->(∀a v,a < n->((ops[a]?).bind (·.dst))=some v->VsJ b r q a (x (.tmp v)) w)->wpAny P md ops Q (ops.size - n+f) (bX n ops.size) (dK x s j) w):
 wpAny P md ops Q ops.size (Array.replicate ops.size false) j e:=by
 refine aCe n s (Keep d e) (qB d b) (fun a w=>u.contains a=true->o w) (VsJ b r q) j e J M L V (kf _ _) (fun _ _=>O) (fun i w w' _ G k=>G.trans (kH k)) (fun a i w w' _ t X l H k z=>?_) (fun a i E w w' _ t _ m _ k=>?_) U K;by_cases B:i=b;exfalso;subst B;have y:=zBf.1 R a (by simpa using z);simp only [X,Bool.or_false,zCq] at y;exact t y;exact N w w' (l z) H (k.2 B);unfold VsJ at m⊢;by_cases l:a=b;rw [zBx l] at m⊢;exact I E w w' m (k.2 fun F=>t (l.trans F.symm));rw [zBw l] at m⊢;exact wS S a E w w' m (kH k)
def bJ {n} {T:Nat->Oper->Prop} {b:List Oper} (d:∀a p,(b.take n)[a]?=some p->T (0+a) p):∀a p,a < n->b.toArray[a]?=some p->T a p:=by
 intro a p e f;have:=d a p (by rw [zBs,zBx e];simpa using f);rwa [zBi] at this
end
section
def lS:Nat->Nat->List UInt8
 | 0,_=> []
 | f+1,n=>if n=0 then [] else lS f (n / 128)++ [UInt8.ofNat (n % 128+128)]
def cC (n:Nat):List UInt8:=lS 10 (n / 128)++ [UInt8.ofNat (n % 128)]
def dU (a:List Nat):List UInt8:=a.flatMap cC
def eT:List UInt8->Bool->Nat->Nat->Option (Nat×Nat)
 | [],_,_,_=>none
 | c::r,first,acc,pos=>
   if (first&&c.toNat==128)||decide (144115188075855871 < acc) then none
   else if c.toNat < 128 then some (acc*128+c.toNat % 128,pos+1) else eT r false (acc*128+c.toNat % 128) (pos+1)
def eS (b:List UInt8) (a:Int):Nat×Int×Int:=
 if a < 0∨(b.length:Int) < a then (0,a,2)
 else match eT (b.drop a.toNat) true 0 a.toNat with
    | some (n,p)=>(n,p,0)
    | none=>(0,a,4)
def aBl:Nat->Nat->List UInt8
 | 0,_=> []
 | k+1,n=>aBl k n++ [UInt8.ofNat (n / 256 ^ k % 256)]
def sH (n:Nat):List UInt8:=aBl 4 n
def ofN (b:List UInt8) (a:Nat):Nat->Nat
 | 0=>0
 | k+1=>ofN b a k+(b[a+k]?.getD 0).toNat*256 ^ k
def ofB (b:List UInt8) (a:Int):Nat×Int:=
 if a < 0∨(b.length:Int) < a then (0,2) else if (b.length:Int) - a < 4 then (0,4) else (ofN b a.toNat 4,0)
def aK4 (b a k):ofN b a k < 256 ^ k:=by
 induction k with
 | zero=>simp [ofN]
 | succ k e=>
   have:(b[a+k]?.getD 0).toNat < 256:=UInt8.toNat_lt _;simp only [ofN,Nat.pow_succ];have d:(b[a+k]?.getD 0).toNat*256 ^ k<=255*256 ^ k:=Nat.mul_le_mul_right _ oM;omega
def mV (c d first a b):eT (c::d) first a b=
 if (first&&c.toNat==128)||decide (144115188075855871 < a) then none
 else if c.toNat < 128 then some (a*128+c.toNat % 128,b+1) else eT d false (a*128+c.toNat % 128) (b+1):=by conv=>lhs;rw [eT]
def tQ (a):lS a 0= []:=by cases a <;> simp [lS]
def aGy (a):∀n,n < 128 ^ a->lS (a+1) n=lS a n:=by
 induction a with
 | zero=>intro n b;have:n=0:=by simpa using b
         subst this;simp [lS]
 | succ a e=>
   intro n b;by_cases d:n=0
   · subst d;simp [tQ]
   · rw [lS,zBw d,e (n / 128) (by rw [Nat.div_lt_iff_lt_mul oM];rw [Nat.pow_succ] at b;exact b)]
     conv=>rhs;rw [lS,zBw d]
def aGx (n) (a:n≠0) (b:n < 128 ^ 10):lS 10 n=lS 10 (n / 128)++ [UInt8.ofNat (n % 128+128)]:=by
 rw [aGy 9 (n / 128) oM]
 conv=>lhs;rw [lS,zBw a]
def aCM (a):∀n,(lS a n).length<=a:=by
 induction a with
 | zero=>intro n;simp [lS]
 | succ a b=>
   intro n;unfold lS;split
   · simp
   have:=b (n / 128);simp;omega
def dJ (n):(cC n).length<=11:=by
 have:=aCM 10 (n / 128);simp [cC];omega
def xY (a):(dU a).length<=11*a.length:=by
 induction a with
 | nil=>simp [dU]
 | cons b a d=>
   have:=dJ b;simp [dU] at d⊢;omega
def aC1 (a:List Nat) (k:Nat) (n:Nat) (b:a[k]?=some n):dU (a.take (k+1))=dU (a.take k)++cC n:=by
 have d:k < a.length:=(zAc.1 b).1;rw [List.take_succ_eq_append_getElem d];have:a[k]=n:=(zAc.1 b).2;rw [this];simp [dU,List.flatMap_append]
def aKe (n b a) (f:b+1<=a) (e:a=0∨1<=n / 2 ^(7*a)):n / 2 ^(7*(b+1))≠0:=by
 have i:1<=n / 2 ^(7*a):=by rcases e with d | d <;> omega
 have j:n / 2 ^(7*a)<=n / 2 ^(7*(b+1)):=Nat.div_le_div_left (zBp oM oM) (Nat.pow_pos oM);omega
def aK7 (n a) (b:n < 18446744073709551616):n / 2 ^(7*(a+1)) < 128 ^ 9:=by
 have d:n / 2 ^(7*(a+1))<=n / 2 ^ 7:=Nat.div_le_div_left (zBp oM oM) (Nat.pow_pos oM);omega
def aLl (n a):n / 2 ^(7*(a+1))=n / 2 ^(7*a)/ 128:=by
 rw [Nat.div_div_eq_div_mul,show 7*(a+1)=7*a+7 by omega,Nat.pow_add]
def aGk (n a) (e:n < 18446744073709551616) (f:a<=9) (d:128<=n / 2 ^(7*a)):a+1<=9:=by
 by_cases b:a=9;subst b;rw [Nat.le_div_iff_mul_le dC] at d;omega;omega
def qS (n):dU [n]=cC n:=by simp [dU]
def aGL (a):∀n e b,n < 128 ^ a->n < 144115188075855872->eT (lS a n++e) true 0 b=eT e (n==0) n (b+(lS a n).length):=by
 induction a with
 | zero=>intro n e b d _;have:n=0:=by simpa using d
         subst this;simp [lS]
 | succ a m=>
   intro n e b d o;by_cases f:n=0
   · subst f;simp [tQ]
   · rw [lS,zBw f,zCo,m (n / 128) _ b (by rw [Nat.div_lt_iff_lt_mul oM];rw [Nat.pow_succ] at d;exact d) oM];rw [List.singleton_append,mV];have l:(UInt8.ofNat (n % 128+128)).toNat=n % 128+128:=(by simp [UInt8.toNat_ofNat'];omega);rw [l,zBw,zBw oM]
     · have j:n / 128*128+(n % 128+128)% 128=n:=oM;rw [j,zAi,List.length_singleton,Nat.add_assoc];have:(n==0)=false:=(by simp [f]);rw [this]
     by_cases i:n / 128=0;simp [i];omega;simp [i];omega
def pB (n) (e:n < 18446744073709551616) (d a):eT (cC n++d) true 0 a=some (n,a+(cC n).length):=by
 unfold cC;rw [zCo,aGL 10 (n / 128) _ a oM oM,List.singleton_append,mV];have b:(UInt8.ofNat (n % 128)).toNat=n % 128:=by simp [UInt8.toNat_ofNat'];omega
 rw [b,zBw,zBx oM,zAi,List.length_singleton];congr 2;omega;simp;omega
def aI4 (n):0 < (cC n).length:=by simp [cC]
def aIX (a d n) (b:n < 18446744073709551616):eS (a++(cC n++d)) (a.length:Int)=(n,((a.length+(cC n).length:Nat):Int),0):=by
 rw [eS,zBw (by simp;omega)];simp only [zBr,List.drop_left];rw [pB n b]
def dF (a:List (Int×Nat)) (b:Int):List (Int×Nat):=
 match a.getLast? with
 | some (d,n)=>if d=b then a.dropLast++ [(d,n+1)] else a++ [(b,1)]
 | none=> [(b,1)]
def bO (a:List Int):List (Int×Nat):=a.foldl dF []
def aCr (a:List Int) (k:Nat) (d:Int) (b:a[k]?=some d):bO (a.take (k+1))=dF (bO (a.take k)) d:=by
 have e:k < a.length:=(zAc.1 b).1;rw [List.take_succ_eq_append_getElem e,(zAc.1 b).2];simp [bO,List.foldl_append]
def iH (b:List (Int×Nat)) (a n):dF (b++ [(a,n)]) a=b++ [(a,n+1)]:=by simp [dF]
def gL (d:List (Int×Nat)) (b a n) (e:b≠a):dF (d++ [(b,n)]) a=d++ [(b,n)]++ [(a,1)]:=by simp [dF,e]
def aCt (a):dF [] a= [(a,1)]:=by simp [dF]
def aCu (a:List (Int×Nat)) (b):(dF a b).length<=a.length+1/\a.length<=(dF a b).length:=by
 rcases List.eq_nil_or_concat a with rfl |⟨f,⟨e,n⟩,rfl⟩
 · simp [dF]
 · rw [List.concat_eq_append];by_cases d:e=b
   · subst d;rw [iH];simp
   · rw [gL _ _ _ _ d];simp
def mM (a):(bO a).length<=a.length:=by
 have f:∀(a:List Int) (b:List (Int×Nat)),(a.foldl dF b).length<=b.length+a.length:=by
  intro a
  induction a with
  | nil=>intro b;simp
  | cons d a e=>intro b;have:=e (dF b d);have i:=(aCu b d).1;simp only [List.foldl_cons,zCg];omega
 have:=f a [];simpa [bO] using this
def eU (b:List (Int×Nat)):List Int:=b.flatMap fun a=>List.replicate a.2 a.1
def aCZ (a:List (Int×Nat)) (b):eU (dF a b)=eU a++ [b]:=by
 rcases List.eq_nil_or_concat a with rfl |⟨f,⟨e,n⟩,rfl⟩
 · simp [dF,eU]
 · rw [List.concat_eq_append];by_cases d:e=b
   · subst d;rw [iH];simp [eU,List.flatMap_append,List.replicate_succ']
   · rw [gL _ _ _ _ d];simp [eU,List.flatMap_append]
def nZ (a):eU (bO a)=a:=by
 have e:∀(a:List Int) (b:List (Int×Nat)),eU (a.foldl dF b)=eU b++a:=by
  intro a
  induction a with
  | nil=>intro b;simp
  | cons f a d=>intro b;rw [List.foldl_cons,d,aCZ];simp
 have:=e a [];simpa [bO,eU] using this
def uG (a:List (Int×Nat)):Prop:=(∀f∈a,1<=f.2)/\a.Pairwise (fun _ _=>True)/\∀e b d,a[e]?=some b->a[e+1]?=some d->b.1≠d.1
def aEk (m:List (Int×Nat)) (o) (x:uG m):uG (dF m o):=by
 obtain ⟨v,_,r⟩:=x;refine ⟨?_,List.pairwise_of_forall (by intros;trivial),?_⟩
 · rcases List.eq_nil_or_concat m with rfl |⟨j,⟨i,n⟩,rfl⟩
   · simp [dF]
   · rw [List.concat_eq_append] at*
     by_cases f:i=o
     · subst f;rw [iH];intro t d;rcases zCp.1 d with d | d;exact v t (List.mem_append_left _ d)
       · have:=List.mem_singleton.1 d;subst this;simp
     · rw [gL _ _ _ _ f];intro t d;rcases zCp.1 d with d | d;exact v t d
       · have:=List.mem_singleton.1 d;subst this;simp
 · intro e q u b a;rcases List.eq_nil_or_concat m with rfl |⟨j,⟨i,n⟩,rfl⟩
   · simp [dF] at a
   · rw [List.concat_eq_append] at*
     by_cases f:i=o
     · subst f;rw [iH] at b a;have s:e+1 < (j++ [(i,n+1)]).length:=(zAc.1 a).1;simp at s;by_cases l:e+1=j.length;rw [zAo oM,l] at a;simp at a;rw [zAn oM] at b;have:=r e q (i,n) (by rw [zAn oM];exact b) (by rw [zAo oM,l];simp);rw [<-a];exact this
       · rw [zAn oM] at b a;exact r e q u (by rw [zAn oM];exact b) (by rw [zAn oM];exact a)
     rw [gL _ _ _ _ f] at b a;have s:e+1 < (j++ [(i,n)]++ [(o,1)]).length:=(zAc.1 a).1;simp at s;by_cases l:e=j.length;subst l;rw [zAn (by simp)] at b;simp at b;rw [zAo (by simp)] at a;simp at a;rw [<-b,<-a];exact f;rw [zAn (by simp;omega)] at b a;exact r e q u b a
def aAz (a):uG (bO a):=by
 have f:∀(a:List Int) (b:List (Int×Nat)),uG b->uG (a.foldl dF b):=by
  intro a
  induction a with
  | nil=>intro b d;exact d
  | cons i a e=>intro b d;exact e _ (aEk b i d)
 exact f a [] ⟨by simp,List.Pairwise.nil,by simp⟩
def aER (a:List (Int×Nat)) (e:Int×Nat) (b:e∈a):e.2<=(eU a).length:=by
 induction a with
 | nil=>cases b
 | cons d a i=>
   have f:eU (d::a)=List.replicate d.2 d.1++eU a:=(by simp [eU]);rw [f,zAi,zCn];rcases List.mem_cons.1 b with rfl | b;omega;have:=i b;omega
def qJ (b) (a:Int×Nat) (d:a∈bO b):a.2<=b.length:=by
 have:=aER _ a d;rwa [nZ] at this
def kL (a:Int):Prop:=0<=a/\a < 257
instance (s:Int):Decidable (kL s):=inferInstanceAs (Decidable (_/\_))
def cT (a:Int×Nat):List UInt8:=cC a.1.toNat++cC a.2
def fK (a:List (Int×Nat)):List UInt8:=cC a.length++a.flatMap cT
def rO (a:List Int):Option (List UInt8):=if ∀b∈bO a,kL b.1 then some (fK (bO a)) else none
def uM (a:Int×Nat):(cT a).length<=22:=by
 have:=dJ a.1.toNat;have:=dJ a.2;simp [cT];omega
def zO (a:List (Int×Nat)) (k) (d:Int×Nat) (b:a[k]?=some d):(a.take (k+1)).flatMap cT=(a.take k).flatMap cT++cT d:=by
 have e:k < a.length:=(zAc.1 b).1;rw [List.take_succ_eq_append_getElem e,(zAc.1 b).2];simp [List.flatMap_append]
def uR (a:List (Int×Nat)):(a.flatMap cT).length<=22*a.length:=by
 induction a with
 | nil=>simp
 | cons b a d=>
   have:=uM b;rw [List.flatMap_cons,zAi,zCg];omega
def pR (b:List UInt8) (a:Nat):Option (Nat×Nat×Nat):=
 match eT (b.drop a) true 0 a with
 | none=>none
 | some (f,d)=>
   match eT (b.drop d) true 0 d with
   | none=>none
   | some (k,e)=>some (f,k,e)
def rgo (d:List UInt8) (e:Nat):Nat->Nat->Nat->List Int->List Int×Int
 | 0,a,_,acc=>if a=d.length then (acc,0) else ([],4)
 | n+1,a,last,acc=>
   match pR d a with
   | none=>([],4)
   | some (b,k,f)=>if 257<=b∨b=last∨k=0 then ([],4) else if e - acc.length < k then ([],3) else rgo d e n f b (acc++List.replicate k (b:Int))
def mU (a:List UInt8) (most:Int):List Int×Int:=
 match eT a true 0 0 with
 | none=>([],4)
 | some (n,b)=>rgo a most.toNat n b 257 []
def xU (f):∀first b e n d,eT f first b e=some (n,d)->e < d/\d<=e+f.length/\n < 18446744073709551616:=by
 induction f with
 | nil=>intro first b e n d a;rw [eT] at a;cases a
 | cons c m j=>
   intro first b e n d a
   rw [mV] at a;split at a
   · cases a
   · rename_i i
     split at a
     · injection a with a;injection a with h1 h2;subst h1;subst h2;have l:b<=144115188075855871:=(by rcases zBe 144115188075855871 b with a | a;exact absurd (by simp [a]) i;exact a);refine ⟨by omega,by simp,by omega⟩
     have:=j _ _ _ _ _ a;simp only [zCg];omega
def qP (b a n d) (f:a<=b.length) (e:eT (b.drop a) true 0 a=some (n,d)):eS b (a:Int)=(n,(d:Int),0):=by
 rw [eS,zBw oM];simp only [zBr,e]
def qQ (b a) (e:a<=b.length) (d:eT (b.drop a) true 0 a=none):eS b (a:Int)=(0,(a:Int),4):=by
 rw [eS,zBw oM];simp only [zBr,d]
def aCE (b i n a f d) (e:pR b a=none):rgo b i (n+1) a f d=([],4):=by simp only [rgo,e]
def aCD (d e n f j b a k i) (l:pR d f=some (a,k,i)):
 rgo d e (n+1) f j b=if 257<=a∨a=j∨k=0 then ([],4) else if e - b.length < k then ([],3) else rgo d e n i a (b++List.replicate k (a:Int)):=by simp only [rgo,l]
def aCw (b a) (d:eT (b.drop a) true 0 a=none):pR b a=none:=by simp only [pR,d]
def aCv (b a i d) (e:eT (b.drop a) true 0 a=some (i,d)) (f:eT (b.drop d) true 0 d=none):pR b a=none:=by simp only [pR,e,f]
def xB (b a f d k e) (i:eT (b.drop a) true 0 a=some (f,d)) (j:eT (b.drop d) true 0 d=some (k,e)):pR b a=some (f,k,e):=by simp only [pR,i,j]
def gS (a:List (Int×Nat)):List UInt8:=a.flatMap cT
def sD (b:Int×Nat) (a:List (Int×Nat)):gS (b::a)=cT b++gS a:=by simp [gS]
def uT (a:Int×Nat) (b:List (Int×Nat)):eU (a::b)=List.replicate a.2 a.1++eU b:=by simp [eU]
def aF1:Nat->List (Int×Nat)->Prop
 | _, []=>True
 | last,x::q=>(kL x.1/\x.1.toNat≠last/\1<=x.2/\x.2 < 18446744073709551616)/\aF1 x.1.toNat q
def aGt (e b) (a:Int×Nat) (d) (l:kL a.1) (m:a.2 < 18446744073709551616) (f:e.drop b=cT a++d):pR e b=some (a.1.toNat,a.2,b+(cT a).length):=by
 have i:=pB a.1.toNat (by have:=l.2;omega) (cC a.2++d) b;rw [cT,zCo] at f;rw [<-f] at i;have o:e.drop (b+(cC a.1.toNat).length)=cC a.2++d:=by rw [<-List.drop_drop,f,List.drop_left]
 have j:=pB a.2 m d (b+(cC a.1.toNat).length);rw [<-o] at j;rw [xB _ _ _ _ _ _ i j,cT,zAi,Nat.add_assoc]
def aIj (f o l q):∀(a:List (Int×Nat)) (d i:Nat) (e:List Int),f.drop d=gS a++q->aF1 i a->e.length+(eU a).length<=o->
 ∃F,rgo f o (a.length+l) d i e=rgo f o l (d+(gS a).length) F (e++eU a):=by
 intro a
 induction a with
 | nil=>intro d i e _ _ _;exact ⟨i,by simp [gS,eU]⟩
 | cons b a C=>
   intro d i e m u y;obtain ⟨⟨j,G,H,r⟩,s⟩:=u;rw [sD,zCo] at m;have z:=aGt f d b _ j r m;rw [uT,zAi,zCn] at y;have t:(b::a).length+l=(a.length+l)+1:=(by simp;omega);rw [t,aCD _ _ _ _ _ _ _ _ _ z,zBw (by have:=j.1;have:=j.2;omega),zBw oM];have B:((b.1.toNat:Nat):Int)=b.1:=(by have:=j.1;omega);rw [B];have v:f.drop (d+(cT b).length)=gS a++q:=(by rw [<-List.drop_drop,m,List.drop_left]);obtain ⟨E,x⟩:=C (d+(cT b).length) b.1.toNat (e++List.replicate b.2 b.1) v s (by rw [zAi,zCn];omega);refine ⟨E,?_⟩;rw [x,sD,uT,zAi,zCo,Nat.add_assoc]
def aJf (d:List (Int×Nat)) (q:uG d) (f:∀a∈d,kL a.1/\a.2 < 18446744073709551616) (i) (t:∀a,d[0]?=some a->a.1.toNat≠i):aF1 i d:=by
 induction d generalizing i with
 | nil=>trivial
 | cons a d y=>
   obtain ⟨j,_,l⟩:=q;refine ⟨⟨(f a (List.mem_cons_self ..)).1,t a rfl,j a (List.mem_cons_self ..),(f a (List.mem_cons_self ..)).2⟩,?_⟩;refine y ⟨fun e b=>j e (List.mem_cons_of_mem _ b),List.pairwise_of_forall (by intros;trivial),fun x m o r s=>l (x+1) m o (by simpa using r) (by simpa using s)⟩ (fun e b=>f e (List.mem_cons_of_mem _ b)) _ ?_;intro e b;have:=l 0 a e rfl (by simpa using b);have u:=(f a (List.mem_cons_self ..)).1;have v:=(f e (List.mem_cons_of_mem _ (zAd b))).1;have:=u.1;have:=v.1;omega
def aE0 (d) (e:∀a∈bO d,kL a.1) (f:d.length < 18446744073709551616):aF1 257 (bO d):=
 aJf _ (aAz d) (fun a b=>⟨e a b,by have:=qJ d a b;omega⟩) 257 fun a b=>by have:=(e a (zAd b)).2;have:=(e a (zAd b)).1;omega
def aA3 (a) (b:a.length < 18446744073709551616):(bO a).length < 18446744073709551616:=by have:=mM a;omega
def aBk (a) (o:∀q∈bO a,kL q.1) (f:a.length < 18446744073709551616) (most) (r:(a.length:Int)<=most) (b):
 mU (fK (bO a)++b) most=if b= [] then (a,0) else ([],4):=by
 have j:=pB (bO a).length (aA3 a f) (gS (bO a)++b) 0;have l:fK (bO a)++b=cC (bO a).length++(gS (bO a)++b):=by simp [fK,gS]
 rw [l,mU,j];simp only [zBi];have m:(cC (bO a).length++(gS (bO a)++b)).drop (cC (bO a).length).length=gS (bO a)++b:=List.drop_left;have e:=nZ a;obtain ⟨s,i⟩:=aIj _ most.toNat 0 b (bO a) _ 257 [] m (aE0 a o f) (by rw [e];simp;omega);rw [zBq] at i;rw [i,e,List.nil_append,rgo];by_cases d:b= []
 · subst d;rw [zBx (by simp),zBx rfl]
 · have:0 < b.length:=List.length_pos_iff.2 d;rw [zBw (by simp;omega),zBw d]
def sF (n):(sH n).length=4:=by simp [sH,aBl]
def aIY (k n a) (f:a < k):(aBl k n)[a]?=some (UInt8.ofNat (n / 256 ^ a % 256)):=by
 induction k with
 | zero=>omega
 | succ k d=>
   have b:∀k,(aBl k n).length=k:=fun k=>by induction k with
    | zero=>rfl
    | succ k d=>simp [aBl,d]
   rw [aBl];by_cases e:a=k
   · subst e;rw [zAo (by rw [b];omega),b];simp
   · rw [zAn (by rw [b];omega),d oM]
def aKa (b f n) (l:n < 4294967296):ofB (b++(sH n++f)) (b.length:Int)=(n,0):=by
 have m:=sF n;rw [ofB,zBw (by simp;omega),zBw (by simp;omega)];have d:∀a,a < 4->(b++(sH n++f))[b.length+a]?=some (UInt8.ofNat (n / 256 ^ a % 256)):=fun a j=>by rw [zAo oM,Nat.add_sub_cancel_left,zAn oM];exact aIY 4 n a j
 simp only [ofN,zBr];rw [d 0 oM,d 1 oM,d 2 oM,d 3 oM];have i:∀e:Nat,(UInt8.ofNat (e % 256)).toNat=e % 256:=fun e=>by simp [UInt8.toNat_ofNat']
 simp only [Option.getD_some,i];congr 1;simp only [Nat.reducePow,Nat.div_one,zBl];omega
def mW (a:Nat):Nat:=if a % 2=1 then (a / 2)^^^ 3988292384 else a / 2
def sL:Nat->Nat->Nat
 | 0,s=>s
 | k+1,s=>mW (sL k s)
def kT (a:Nat):Nat:=sL 8 a
def uU:List UInt8->Nat->Nat
 | [],a=>a
 | c::r,a=>uU r (kT ((a % 256)^^^ c.toNat)^^^(a / 256))
def aBp (b:Nat) (a:List UInt8):Nat:=4294967295 - uU a (4294967295 - b)
def oC (a:List UInt8):Nat:=aBp 0 a
def aEV {a} (b:a < 4294967296):mW a < 4294967296:=by
 unfold mW;split;exact Nat.xor_lt_two_pow (n:=32) oM oM;omega
def xZ {b:Nat} (a:b < 4294967296):∀k,sL k b < 4294967296
 | 0=>a
 | k+1=>aEV (xZ a k)
def aAH {a} (b:a < 256):kT a < 4294967296:=xZ oM 8
def aJb {a:Nat} (b:a < 4294967296) (c:UInt8):(a % 256)^^^ c.toNat < 256:=Nat.xor_lt_two_pow (n:=8) oM c.toNat_lt
def aJa {a:Nat} (b:a < 4294967296) (c:UInt8):kT ((a % 256)^^^ c.toNat)^^^(a / 256) < 4294967296:=
 Nat.xor_lt_two_pow (n:=32) (aAH (aJb b c)) oM
def sM:∀(d:List UInt8) (b:Nat),b < 4294967296->uU d b < 4294967296
 | [],_,a=>a
 | c::r,b,a=>sM r _ (aJa a c)
def yA:∀(b:List UInt8) (c:UInt8) (a:Nat),uU (b++ [c]) a=kT ((uU b a % 256)^^^ c.toNat)^^^(uU b a / 256)
 | [],_,_=>rfl
 | d::r,c,a=>yA r c _
def aFW (a):oC a < 4294967296:=by
 unfold oC aBp;have:=sM a (4294967295 - 0) oM;omega
def eF (a:List UInt8):List UInt8:=cC a.length++(a++sH (oC a))
def iJ:List UInt8:= [83,75,82,49]
def wW (d:List Nat) (a b:Nat):List UInt8:=(List.range (b / a+1)).flatMap fun k=>cC (d.idxOf (k*a))
def jS (a:List Nat):List Int:=a.map fun n:Nat=>(n:Int)
def gY (a:List Nat):List UInt8:=fK (bO (jS a))
def pU (d e:List Nat) (most b a:Nat):List UInt8:=iJ++(dU [most,b,a]++(eF (gY d)++eF (wW e b a)))
def gI (a e:List Nat) (most d b:Nat):List UInt8:=pU a e most d b++sH (oC (pU a e most d b))
def xK {d a r n b e} (f:d=a++(cC n++r)) (i:a.length=b) (l:b+(cC n).length=e) (j:n < 18446744073709551616):eS d (b:Int)=(n,(e:Int),0):=by
 rw [f,<-l,<-i];exact aIX a r n j
structure SnAt (body:List UInt8) (most rate N:Nat) (f s:List UInt8) (p1 p2 p3 p4 p5:Nat):Prop where
 e1:body=iJ++(cC most++(cC rate++(cC N++(eF f++eF s))))
 h1:4+(cC most).length=p1
 h2:p1+(cC rate).length=p2
 h3:p2+(cC N).length=p3
 h4:p3+(eF f).length=p4
 h5:p4+(eF s).length=p5
def aC6 (d e most b a):pU d e most b a=iJ++(cC most++(cC b++(cC a++(eF (gY d)++eF (wW e b a))))):=by
 unfold pU;simp [dU]
def SnAt.of (d e most b a):∃i j l m f,SnAt (pU d e most b a) most b a (gY d) (wW e b a) i j l m f/\(pU d e most b a).length=f:=by
 refine ⟨_,_,_,_,_,⟨aC6 d e most b a,rfl,rfl,rfl,rfl,rfl⟩,?_⟩;rw [aC6];simp [iJ];omega
def SnAt.n1 {b i s most r f e l m o q} (d:SnAt b most r f i s e l m o q) (j:most < 18446744073709551616):eS b 4=(most,(e:Int),0):=
 xK (a:=iJ) d.e1 rfl d.h1 j
def SnAt.n2 {f i m most d e j l q s t} (b:SnAt f most d e i m j l q s t) (o:d < 18446744073709551616):eS f (j:Int)=(d,(l:Int),0):=
 xK (a:=iJ++cC most) (r:=cC e++(eF i++eF m)) (by rw [b.e1];simp) (by rw [zAi];have:=b.h1;have:iJ.length=4:=rfl;omega) b.h2 o
def SnAt.n3 {e f m most l d q i j s t} (b:SnAt e most l d f m q i j s t) (o:d < 18446744073709551616):eS e (i:Int)=(d,(j:Int),0):=
 xK (a:=iJ++(cC most++cC l)) (r:=eF f++eF m) (by rw [b.e1];simp) (by rw [zAi,zAi];have:=b.h1;have:=b.h2;have:iJ.length=4:=rfl;omega) b.h3 o
def kC (a):(eF a).length=(cC a.length).length+(a.length+4):=by
 unfold eF;rw [zAi,zAi,sF]
def SnAt.f1 {d b q most l f t u e i v} (a:SnAt d most l f b q t u e i v) (s:b.length < 18446744073709551616):
 ∃j:Nat,eS d (e:Int)=(b.length,(j:Int),0)/\j+(b.length+4)=i/\(d.drop j).take b.length=b/\i<=d.length:=by
 have m:d=(iJ++(cC most++(cC l++cC f)))++(cC b.length++((b++sH (oC b))++eF q)):=by rw [a.e1];simp [eF]
 have o:(iJ++(cC most++(cC l++cC f))).length=e:=by simp only [zAi];have:=a.h1;have:=a.h2;have:=a.h3;have:iJ.length=4:=rfl;omega
 refine ⟨e+(cC b.length).length,xK m o rfl s,?_,?_,?_⟩;have:=a.h4;rw [kC] at this;omega
 · rw [m,<-zCo,List.drop_left' (by rw [zAi,o]),zCo,List.take_left' rfl]
 have C:=a.h5;have r:=congrArg List.length a.e1;simp only [zAi] at r;have x:=a.h1;have y:=a.h2;have z:=a.h3;have B:=a.h4;have E:iJ.length=4:=rfl;omega
def SnAt.f2 {d i b most m f t u v e j} (a:SnAt d most m f i b t u v e j) (s:b.length < 18446744073709551616):
 ∃l:Nat,eS d (e:Int)=(b.length,(l:Int),0)/\l+(b.length+4)=j/\(d.drop l).take b.length=b/\j=d.length:=by
 have o:d=(iJ++(cC most++(cC m++(cC f++eF i))))++(cC b.length++((b++sH (oC b))++ [])):=by rw [a.e1];simp [eF]
 have q:(iJ++(cC most++(cC m++(cC f++eF i)))).length=e:=by simp only [zAi];have:=a.h1;have:=a.h2;have:=a.h3;have:=a.h4;have:iJ.length=4:=rfl;omega
 refine ⟨e+(cC b.length).length,xK o q rfl s,?_,?_,?_⟩;have:=a.h5;rw [kC] at this;omega
 · rw [o,<-zCo,List.drop_left' (by rw [zAi,q]),zCo,List.take_left' rfl]
 have C:=a.h5;have r:=congrArg List.length a.e1;simp only [zAi] at r;have x:=a.h1;have y:=a.h2;have z:=a.h3;have B:=a.h4;have E:iJ.length=4:=rfl;omega
end
section
open Go.RowKit
def lF:(prog.info? 5).map (fun a=>(a.zero,a.size,a.bytes))=some (some (.int .u8 0),1,1):=by kernel_rfl
def uv (n:Nat):Value:=.int .u64 (n:Int)
def aLL (a:Nat):bits .or .u8 ((a:Int)% 256) 128=((a % 128+128:Nat):Int):=by
 have d:∀b:Fin 256,bits .or .u8 ((b.val:Nat):Int) 128=((b.val % 128+128:Nat):Int):=by decide+kernel
 have:=d ⟨a % 256,by omega⟩;simp only at this;rw [show ((a:Int)% 256)=((a % 256:Nat):Int) by omega,this];omega
def aLu (a:Nat):bits .and .u8 ((a:Int)% 256) 127=((a % 128:Nat):Int):=by
 have d:∀b:Fin 256,bits .and .u8 ((b.val:Nat):Int) 127=((b.val % 128:Nat):Int):=by decide+kernel
 have:=d ⟨a % 256,by omega⟩;simp only at this;rw [show ((a:Int)% 256)=((a % 256:Nat):Int) by omega,this];omega
def aLN (n a:Nat):Value.int .u8 (bits .or .u8 ((n:Int)/ 2 ^ a % 256) 128)=bv (UInt8.ofNat (n / 2 ^ a % 128+128)):=by
 have:((n:Int)/ 2 ^ a)=((n / 2 ^ a:Nat):Int):=by push_cast;rfl
 rw [this,aLL];unfold bv;congr 1;simp [UInt8.toNat_ofNat'];omega
def aLo (n:Nat):Value.int .u8 (bits .and .u8 ((n:Int)% 256) 127)=bv (UInt8.ofNat (n % 128)):=by
 rw [aLu];unfold bv;congr 1;simp [UInt8.toNat_ofNat'];omega
def aKz (A f c b w) (z:Rd w w.heap.size 1 A f (b.map uv)) (H:∀n∈b,n < 18446744073709551616) (aj:f<=100000):
 Calls prog 124 #[.slice A f c] w fun V w'=>∃l k,V=.returned l/\w'.ownsRow w.heap.size 5 1 l k ((dU b).map bv)/\Below w.heap.size w w':=by
 obtain ⟨N,G,K,L,M⟩:=info_parts lF;obtain ⟨U,R⟩:=hqq2 z H;have I:=z.1;have E:=lhd I;clear z H I;go_enter func124,ntmps124;go_wp2;go_loopw [3,9] (fun l d wr=>∃k t:Nat,k<=f/\d=.int .i64 k/\wr.ownsRow w.heap.size 5 1 l t ((dU (b.take k)).map bv)/\Below w.heap.size w wr) (fun _ d _=>f -(intOf d).toNat)
 case atStart=>exact ⟨0,0,zAp _,rfl,kj _ _ _ _,kh _ _⟩
 case round=>
  obtain ⟨k,t,ai,rfl,y,u⟩:=hrel;by_cases a8:k < f
  · have ac:∃n,b[k]?=some n:=(by have:=E.out;simp at this;exact ⟨b[k]' oM,zAa oM⟩);obtain ⟨n,s⟩:=ac;obtain ⟨af,al,am,rfl,ah,B,a2⟩:=(U.out.below u).get a8;rw [zAf,s] at B;simp at B;subst B;unfold uv at a2;have J:n < 18446744073709551616:=R.out n (zAd s);obtain ⟨S,C⟩:=hqq2 s J;clear s J;go_wp2
    go_loop [6] (fun j=>∃a:Nat,a<=9/\j=.int .i64 (7*(a:Int))/\(a=0∨1<=n / 2 ^(7*a))) (fun j=>100 -(intOf j).toNat)
    case atStart=>exact ⟨0,by omega,rfl,.inl rfl⟩
    case round=>
        obtain ⟨a,a4,rfl,a3⟩:=hrel;go_wp2
        · have a0:(128:Int)<=(n:Int)/ 2 ^(7*a):=(by assumption);have a1:128<=n / 2 ^(7*a):=(by exact_mod_cast a0);have a6:=aGk n a C.out a4 a1;refine ⟨⟨a+1,a6,by go_num,.inr (by rw [aLl];omega)⟩,by simp [intOf];omega⟩
        · have aa:(n:Int)/ 2 ^(7*a) < 128:=(by assumption);have ab:n / 2 ^(7*a) < 128:=(by exact_mod_cast aa);go_loopw [3,6] (fun l j O=>∃e i:Nat,e<=a/\j=.int .i64 (7*(e:Int))/\O.ownsRow w.heap.size 5 1 l i ((dU (b.take k)++lS 10 (n / 2 ^(7*(e+1)))).map bv)/\Below w.heap.size w O) (fun _ j _=>(intOf j).toNat)
          case atStart=>exact ⟨a,t,zAs _,rfl,by rw [aLl,Nat.div_eq_of_lt ab];simpa [tQ] using y,u⟩
          case round=>
           obtain ⟨e,i,a5,rfl,m,v⟩:=hrel;have q:=v.size;have ak:i<=1100010:=(by have Y:=m.1;have Z:=xY (b.take k);have ag:=aCM 10 (n / 2 ^(7*(e+1)));simp at Y Z;omega);by_cases X:e=0
           · subst X;go_wp2_with (at_builtin;refine bL _ rfl (.tmp 33) (.tmp 37) _ rfl w.heap.size 5 N (.int .u8 0) 1 1 underlying22 G K L M rfl dC u3 i _ rfl m rfl rfl (by simp [Value.oneCell']) (by unfold maxLen;omega) oM q ?_;intro ad ae o r a9 F);have x:=aZ v m r q;clear r F;go_roundw
             case rel=>refine ⟨k+1,i+1,by omega,by go_num,?_,x⟩;rw [aC1 b k n S.out];rw [aLo] at o;simpa [cC] using o
             case measure=>simp [intOf];omega
           · go_wp2_with (at_builtin;refine bL _ rfl (.tmp 24) (.tmp 31) _ rfl w.heap.size 5 N (.int .u8 0) 1 1 underlying22 G K L M rfl dC u3 i _ rfl m rfl rfl (by simp [Value.oneCell']) (by unfold maxLen;omega) oM q ?_;intro ad ae o r a9 F);have x:=aZ v m r q;refine ⟨⟨e - 1,i+1,by omega,cO oM,?_,x⟩,by simp [intOf];omega⟩;rw [aLN] at o;obtain ⟨d,rfl⟩:∃d,e=d+1:=⟨e - 1,by omega⟩;rw [zBb,aGx (n / 2 ^(7*(d+1))),<-aLl];simpa using o;exact aKe n d a a5 a3;exact zAl (aK7 n d C.out) dC
  · have a7:k=f:=oM;subst a7;go_wp2;go_ret;refine ⟨u3,t,rfl,?_,u⟩;have:b.take k=b:=zAg (by have:=E.out;simp at this;omega);rw [this] at y;exact y
def aKA (A e c i a w) (t:Rd w i 1 A e (a.map uv)) (m:i<=w.heap.size) (s:∀n∈a,n < 18446744073709551616) (f:e<=100000):
 Calls prog 124 #[.slice A e c] w fun j w'=>∃b d,j=.returned (.slice b (dU a).length d)/\Made w' w.heap.size 5 1 b (dU a).length d ((dU a).map bv)/\Below w.heap.size w w':=by
 refine (aKz A e c a w (t.mono m) s f).mono fun j w' ⟨u,k,q,l,o⟩=>?_;have r:(dU a).length=k:=by simpa using l.1
 subst r;obtain ⟨b,d,rfl,f⟩:=aS l;exact ⟨b,d,q,f,o⟩
def zA (A b c d a w e k) (m:dU a=e) (o:e.length=k) (s:Rd w d 1 A b (a.map uv)) (l:d<=w.heap.size) (q:∀n∈a,n < 18446744073709551616) (r:b<=100000):
 Calls prog 124 #[.slice A b c] w fun j w'=>∃f i,j=.returned (.slice f k i)/\Made w' w.heap.size 5 1 f k i (e.map bv)/\Below w.heap.size w w':=by
 subst m;subst o;exact aKA A b c d a w s l q r
def aJR (w):(sizeOf 5).run prog w=.ok 1 w:=by kernel_rfl
def sP (b a:Nat) (i:b<=144115188075855871) (f:a < 256):bits .or .u64 ((b:Int)*128) (IntKind.u64.wrap (bits .and .u8 (a:Int) 127))=((b*128+a % 128:Nat):Int):=by
 have d:bits .and .u8 (a:Int) 127=((a % 128:Nat):Int):=by have:=u8_and_nat a 127 f oM;rw [nat_mask7] at this;exact this
 have e:IntKind.u64.wrap ((a % 128:Nat):Int)=((a % 128:Nat):Int):=by rw [ko];omega
 rw [d,e,show ((b:Int)*128)=((b*128:Nat):Int) by push_cast;rfl,u64_or_nat _ _ oM oM,nat_join 7 (b*128) (a % 128) oM oM]
def oQ {b d c} {a:Nat×Int×Int} (e:a=(b,d,c)):Ending.returned (.tuple #[.int .u64 (b:Int),(d:Int),(c:Int)])=Ending.returned (.tuple #[uv a.1,iv a.2.1,iv a.2.2]):=by subst e;rfl
def aCF {d:Nat} {f b e c:Int} {a:Nat×Int×Int} (l:f=(d:Int)) (j:e=b) (i:a=(d,b,c)):Ending.returned (.tuple #[.int .u64 f,(e:Int),(c:Int)])=Ending.returned (.tuple #[uv a.1,iv a.2.1,iv a.2.2]):=by subst i;subst l;subst j;rfl
def aKF (A i c d l M w) (B:Rd w M 1 A i (d.map bv)) (a0:i<=c) (V:c<=maxLen):
 Calls prog 190 #[.slice A i c,(l:Int)] w fun S w'=>S=.returned (.tuple #[uv (eS d l).1,iv (eS d l).2.1,iv (eS d l).2.2])/\w=w':=by
 unfold maxLen at V;have K:d.length=i:=by simpa using B.1
 obtain ⟨r,R⟩:=hqq2 K B;clear K B;by_cases z:l < 0
 · have o:eS d l=(0,l,2):=(by rw [eS,zBx (.inl z)]);have j:=lhd o;clear o;go_enter func190,ntmps190;go_wp2;go_ret3;exact ⟨oQ j.out,rfl⟩
 by_cases H:(i:Int) < l
 · have o:eS d l=(0,l,2):=(by rw [eS,zBx (.inr (by rw [r.out];exact H))]);have j:=lhd o;clear o;go_enter func190,ntmps190;go_wp2;go_ret3;exact ⟨oQ j.out,rfl⟩
 obtain ⟨k,rfl⟩:=Int.eq_ofNat_of_zero_le (Int.not_lt.1 z);have J:k<=i:=oM;have o:eS d (k:Int)=match eT (d.drop k) true 0 k with | some (n,p)=>(n,(p:Int),0)| none=>(0,(k:Int),4):=by rw [eS,zBw (by rw [r.out];omega)];rfl
 have j:=lhd o;have y:=R.out.cut (k:=k) (cap:=c) J a0;have hcut:=iX (P:=prog) 22 5 1 underlying22 aJR A i c k J;generalize dY A c k 1=A' at y hcut;have N:=lhd y;have a3:decide ((k:Int) < 0)=false:=by simp
 have a4:decide (i < k)=false:=by simp;omega
 clear o z y H;go_enter func190,ntmps190;go_wp2
 go_loop [7,23] (fun n C=>∃a f:Nat,a<=i - k/\C=.int .i64 a/\n=.int .u64 f/\eT (d.drop (k+a)) (a==0) f (k+a)=eT (d.drop k) true 0 k) (fun _ C=>i -(intOf C).toNat)
 case atStart=>exact ⟨0,0,zAp _,rfl,rfl,rfl⟩
 case round=>
  obtain ⟨a,f,a5,rfl,rfl,G⟩:=hrel;have m:=lhd G;clear G;by_cases Z:a < i - k
  · obtain ⟨E,a6,a7,rfl,a2,L,U⟩:=N.out.get Z;have s:∃e,d[k+a]?=some e:=⟨d[k+a]'(by have:=r.out;omega),zAa (by have:=r.out;omega)⟩;obtain ⟨e,s⟩:=s;simp only [zBl,zBt,zAf,s,Option.map_some,Option.some.injEq] at L;subst L;unfold bv at U;have F:d.drop (k+a)=e::d.drop (k+a+1):=(by have Y:k+a < d.length:=(by have:=r.out;omega);rw [zAx Y];have:d[k+a]=e:=(zAc.1 s).2;rw [this]);have u:e.toNat < 256:=e.toNat_lt;rw [F,mV] at m;clear s F;go_wp2
    · have a1:(e.toNat:Int)=128:=(by assumption);have q:a=0:=(by assumption);go_ret3;refine ⟨oQ ?_,rfl⟩;rw [j.out,<-m.out,zBx (by simp;left;omega)]
    · have q:a=0:=(by assumption);have t:((e.toNat:Int)==128)=true∨(144115188075855871:Int) < (f:Int):=(by assumption);go_ret3;refine ⟨oQ ?_,rfl⟩;rw [j.out,<-m.out,zBx (by simp at t⊢;omega)]
    · have q:a=0:=(by assumption);have t:¬(e.toNat:Int)=128:=(by assumption);have v:((e.toNat:Int)==128)=false/\(f:Int)<=144115188075855871:=(by assumption);have x:(e.toNat:Int) < 128:=(by assumption);subst q;go_ret3;refine ⟨aCF (sP f _ oM u) ?_ (b:=((k+0+1:Nat):Int)) ?_,rfl⟩;push_cast;rfl
      · rw [j.out,<-m.out,zBw (by simp;omega),zBx oM]
    have q:a=0:=(by assumption);have t:¬(e.toNat:Int)=128:=(by assumption);have v:((e.toNat:Int)==128)=false/\(f:Int)<=144115188075855871:=(by assumption);have x:(128:Int)<=(e.toNat:Int):=(by assumption);subst q;refine ⟨⟨0+1,f*128+e.toNat % 128,by omega,rfl,dS (sP f _ oM u),?_⟩,by simp [intOf];omega⟩;rw [<-m.out,zBw (by simp;omega),zBw oM];rfl
    · have q:¬a=0:=(by assumption);have t:(144115188075855871:Int) < (f:Int):=(by assumption);go_ret3;refine ⟨oQ ?_,rfl⟩;rw [j.out,<-m.out,zBx (by simp;omega)]
    · have q:¬a=0:=(by assumption);have v:(f:Int)<=144115188075855871:=(by assumption);have x:(e.toNat:Int) < 128:=(by assumption);go_ret3;refine ⟨aCF (sP f _ oM u) ?_ (b:=((k+a+1:Nat):Int)) ?_,rfl⟩;push_cast;rfl
      · rw [j.out,<-m.out,zBw (by simp;omega),zBx oM]
    · have q:¬a=0:=(by assumption);have v:(f:Int)<=144115188075855871:=(by assumption);have x:(128:Int)<=(e.toNat:Int):=(by assumption);refine ⟨⟨a+1,f*128+e.toNat % 128,by omega,by go_num,dS (sP f _ oM u),?_⟩,by simp [intOf];omega⟩;rw [<-m.out,zBw (by simp;omega),zBw oM];rfl
  · have I:a=i - k:=oM;have O:=lhd I;clear I;go_wp2;go_ret3;refine ⟨oQ ?_,rfl⟩;have X:d.drop (k+a)= []:=List.drop_eq_nil_of_le (by rw [r.out];have:=O.out;omega);rw [j.out,<-m.out,X,eT]
def fQ (A a c d b e w n p k) (i:eS d b=(n,p,k)) (o:Rd w e 1 A a (d.map bv)) (m:a<=c) (j:c<=maxLen):
 Calls prog 190 #[.slice A a c,(b:Int)] w fun f w'=>f=.returned (.tuple #[.int .u64 (n:Int),(p:Int),(k:Int)])/\w=w':=
 (aKF A a c d b e w o m j).mono fun f w' ⟨l,q⟩=>⟨by rw [l,i];rfl,q⟩
def aGJ (b a k:Nat) (i:b < 256 ^ k) (q:a < 256) (o:k < 4):bits .or .u32 (b:Int) ((a:Int)*2 ^(8*k)% 4294967296)=((b+a*256 ^ k:Nat):Int):=by
 have d:(256:Nat)^ k=2 ^(8*k):=by rw [Nat.pow_mul]
 have e:a*256 ^ k < 4294967296:=by have m:a*256 ^ k<=255*256 ^ k:=Nat.mul_le_mul_right _ oM;have j:256 ^ k<=256 ^ 3:=zBp oM oM;omega
 have l:b < 4294967296:=by have j:256 ^ k<=256 ^ 3:=zBp oM oM;omega
 have f:((a:Int)*2 ^(8*k)% 4294967296)=((a*256 ^ k:Nat):Int):=by
  rw [d] at e⊢;have:(a:Int)*2 ^(8*k)=((a*2 ^(8*k):Nat):Int):=by push_cast;rfl
  rw [this];omega
 rw [f,u32_or_nat _ _ l e,Nat.or_comm,nat_join (8*k) (a*256 ^ k) b (by rw [d];exact Nat.mul_mod_left _ _) (by rw [<-d];exact i),zCs]
def aHz (n:Nat) (w):
 Calls prog 126 #[.int .u32 (n:Int)] w fun o w'=>∃a,o=.returned a/\w'.ownsRow w.heap.size 5 1 a 4 ((sH n).map bv)/\Below w.heap.size w w':=by
 obtain ⟨z,t,v,x,y⟩:=info_parts lF;go_enter func126,ntmps126;go_wp2;go_loopw [0,3,4] (fun B a e wr=>∃k:Nat,k<=4/\e=.int .i64 k/\B=.int .u32 ((n / 256 ^ k:Nat):Int)/\wr.ownsRow w.heap.size 5 1 a k ((aBl k n).map bv)/\Below w.heap.size w wr) (fun _ _ e _=>4 -(intOf e).toNat)
 case atStart=>exact ⟨0,zAp _,rfl,by simp,kj _ _ _ _,kh _ _⟩
 case round=>
  obtain ⟨k,E,rfl,rfl,d,b⟩:=hrel;have i:=b.size;by_cases F:k < 4
  · generalize j:n / 256 ^ k=m;have f:=lhd j;clear j;go_wp2_with (at_builtin;refine bL _ rfl (.tmp 6) (.tmp 9) _ rfl w.heap.size 5 z (.int .u8 0) 1 1 underlying22 t v x y rfl dC u3 k _ rfl d rfl rfl (by simp [Value.oneCell']) (by unfold maxLen;omega) oM i ?_;intro H I l s G C);have r:=aZ b d s i;refine ⟨⟨k+1,by omega,by go_num,dS ?_,?_,r⟩,by simp [intOf];omega⟩;rw [Nat.pow_succ,<-Nat.div_div_eq_div_mul,f.out];push_cast;rfl;have u:Value.int .u8 ((m:Int)% 256)=bv (UInt8.ofNat (m % 256)):=(by unfold bv;congr 1;simp [UInt8.toNat_ofNat']);rw [u] at l;rw [aBl,f.out];simpa using l
  · have q:k=4:=oM;subst q;go_wp2;go_ret;exact ⟨u3,rfl,d,b⟩
def aAS (n:Nat) (w):
 Calls prog 126 #[.int .u32 (n:Int)] w fun d w'=>∃a b,d=.returned (.slice a 4 b)/\Made w' w.heap.size 5 1 a 4 b ((sH n).map bv)/\Below w.heap.size w w':=by
 refine (aHz n w).mono fun d w' ⟨l,f,j,e⟩=>?_;obtain ⟨a,b,rfl,i⟩:=aS j;exact ⟨a,b,f,i,e⟩
def aA5 {b:Nat} {e d:Int} {a:Nat×Int} (i:e=(b:Int)) (f:a=(b,d)):Ending.returned (.tuple #[.int .u32 e,(d:Int)])=Ending.returned (.tuple #[.int .u32 (a.1:Int),iv a.2]):=by subst f;subst i;rfl
def aLy (A f c a e y w) (q:Rd w y 1 A f (a.map bv)) (H:f<=maxLen):
 Calls prog 128 #[.slice A f c,(e:Int)] w fun E w'=>E=.returned (.tuple #[.int .u32 ((ofB a e).1:Int),iv (ofB a e).2])/\w=w':=by
 unfold maxLen at H;have t:a.length=f:=by simpa using q.1
 obtain ⟨j,B⟩:=hqq2 t q;clear t q;by_cases o:e < 0
 · have d:ofB a e=(0,2):=(by rw [ofB,zBx (.inl o)]);have i:=lhd d;clear d;go_enter func128,ntmps128;go_wp2;go_ret2;exact ⟨aA5 rfl i.out,rfl⟩
 by_cases s:(f:Int) < e
 · have d:ofB a e=(0,2):=(by rw [ofB,zBx (.inr (by rw [j.out];exact s))]);have i:=lhd d;clear d;go_enter func128,ntmps128;go_wp2;go_ret2;exact ⟨aA5 rfl i.out,rfl⟩
 by_cases J:(f:Int) - e < 4
 · have d:ofB a e=(0,4):=(by rw [ofB,zBw (by rw [j.out];omega),zBx (by rw [j.out];omega)]);have i:=lhd d;clear d;go_enter func128,ntmps128;go_wp2;go_ret2;exact ⟨aA5 rfl i.out,rfl⟩
 obtain ⟨b,rfl⟩:=Int.eq_ofNat_of_zero_le (Int.not_lt.1 o);have d:ofB a (b:Int)=(ofN a b 4,0):=by rw [ofB,zBw (by rw [j.out];omega),zBw (by rw [j.out];omega)];rfl
 have i:=lhd d;have M:b+4<=f:=oM;have O:decide ((b:Int) < 0)=false:=by simp
 have R:decide (f < b)=false:=by simp;omega
 have S:decide ((f:Int) -(b:Int) < 4)=false:=by simp;omega
 clear d o s J;go_enter func128,ntmps128;go_wp2
 go_loop [6,23] (fun n r=>∃k:Nat,k<=4/\r=.int .i64 k/\n=.int .u32 (ofN a b k:Int)) (fun _ r=>4 -(intOf r).toNat)
 case atStart=>exact ⟨0,zAp _,rfl,rfl⟩
 case round=>
  obtain ⟨k,U,rfl,rfl⟩:=hrel;by_cases I:k < 4
  · obtain ⟨L,V,X,rfl,N,x,G⟩:=B.out.get (k:=b+k) oM;have m:∃l,a[b+k]?=some l:=⟨a[b+k]'(by have:=j.out;omega),zAa (by have:=j.out;omega)⟩;obtain ⟨l,m⟩:=m;simp only [zAf,m,Option.map_some,Option.some.injEq] at x;subst x;unfold bv at G;have v:ofN a b (k+1)=ofN a b k+l.toNat*256 ^ k:=(by rw [ofN,m];rfl);have u:=aK4 a b k;obtain ⟨C,z⟩:=hqq2 v u;generalize ofN a b k=acc at*
    have K:l.toNat < 256:=l.toNat_lt;clear m v u;go_wp2;refine ⟨⟨k+1,by omega,by go_num,dS ?_⟩,by simp [intOf];omega⟩;rw [C.out];exact aGJ acc l.toNat k z.out K I
  · have F:k=4:=oM;subst F;go_wp2;go_ret2;exact ⟨aA5 rfl i.out,rfl⟩
def aLO (A a c d b e w n k) (i:ofB d b=(n,k)) (m:Rd w e 1 A a (d.map bv)) (j:a<=maxLen):
 Calls prog 128 #[.slice A a c,(b:Int)] w fun f w'=>f=.returned (.tuple #[.int .u32 (n:Int),(k:Int)])/\w=w':=
 (aLy A a c d b e w m j).mono fun f w' ⟨l,o⟩=>⟨by rw [l,i];rfl,o⟩
def lB (a:Int×Nat):List Value:= [iv a.1,iv (a.2:Int)]
def cG (a:List (Int×Nat)):List Value:=a.flatMap lB
def rN (a:List (Int×Nat)):(cG a).length=a.length*2:=by
 induction a with
 | nil=>rfl
 | cons b a e=>
   have d:cG (b::a)=lB b++cG a:=(by simp [cG]);rw [d,zAi,e,zCg];simp [lB];omega
def jP (a b:List (Int×Nat)):cG (a++b)=cG a++cG b:=by simp [cG,List.flatMap_append]
def jV (b:List (Int×Nat)) (a e) (j:Int×Nat) (d:b[a]?=some j) (o:e < 2):(cG b)[a*2+e]?=(lB j)[e]?:=by
 induction b generalizing a with
 | nil=>simp at d
 | cons f b m=>
   have i:cG (f::b)=lB f++cG b:=(by simp [cG]);have l:(lB f).length=2:=rfl;rcases a with _ | a
   · simp at d;subst d;rw [i,Nat.zero_mul,zBi,zAn oM]
   simp only [zCf] at d;rw [i,zAo oM,l,show (a+1)*2+e - 2=a*2+e by omega];exact m a d
def aId:(prog.info? 211).map (fun a=>(a.zero,a.size,a.bytes))=some (some (.agg #[o0,o0]),2,16):=by kernel_rfl
def aLx (A e c L b w) (H:Rd w L 1 A e (b.map iv)) (ac:L<=w.heap.size) (aC:e<=1099511627776):
 Calls prog 188 #[.slice A e c] w fun a5 w'=>∃v,a5=.returned v/\w'.ownsRow w.heap.size 211 2 v (bO b).length (cG (bO b))/\Below w.heap.size w w':=by
 obtain ⟨a1,M,Y,Z,a0⟩:=info_parts aId;have R:b.length=e:=by simpa using H.1
 obtain ⟨x,a3⟩:=hqq2 R (H.mono ac);clear H R;go_enter func188,ntmps188;go_wp2;go_loopw [3,9] (fun v K wr=>∃k:Nat,k<=e/\K=.int .i64 k/\wr.ownsRow w.heap.size 211 2 v (bO (b.take k)).length (cG (bO (b.take k)))/\Below w.heap.size w wr) (fun _ K _=>e -(intOf K).toNat)
 case atStart=>exact ⟨0,zAp _,rfl,kj _ _ _ _,kh _ _⟩
 case round=>
  obtain ⟨k,aB,rfl,d,l⟩:=hrel;have u:=l.size;by_cases ai:k < e
  · obtain ⟨j,I⟩:∃j,b[k]?=some j:=⟨b[k]'(by have:=x.out;omega),zAa (by have:=x.out;omega)⟩;obtain ⟨aq,aG,aH,rfl,ax,J,ad⟩:=(a3.out.below l).get ai;rw [zAf,I] at J;simp at J;subst J;unfold iv at ad;have S:=aCr b k j I;have O:=mM (b.take k);rw [zAj] at O;have F:∀a∈bO (b.take k),a.2<=e:=fun a am=>by have:=qJ _ a am;rw [zAj] at this;omega
    generalize bO (b.take k)=r at*
    have y:=lhd S;clear S I;rcases List.eq_nil_or_concat r with rfl |⟨f,⟨a,n⟩,rfl⟩
    · obtain ⟨a2,a4,rfl,aj⟩:=aS d;have ah:([]:List (Int×Nat)).length=0:=rfl;rw [ah] at*
      clear aj F;go_wp2_with (at_builtin;refine bL _ rfl (.tmp 36) (.tmp 39) _ rfl w.heap.size 211 a1 _ 2 16 underlying208 M Y Z a0 rfl dC (.slice a2 0 a4) 0 _ rfl d rfl rfl (by simp [Value.oneCell']) (by unfold maxLen;omega) oM u ?_;intro ao ap G o ak C);have E:=aZ l d o u;clear o C;go_roundw
      case rel=>refine ⟨k+1,by omega,by go_num,?_,E⟩;rw [y.out,aCt];exact G
      case measure=>simp [intOf];omega
    · rw [List.concat_eq_append] at*
      obtain ⟨p,q⟩:=eqx f.length;have N:(f++ [(a,n)]).length=p+1:=(by simp [q]);rw [N] at d O;obtain ⟨g,i,t,rfl,ae,af,aE,ay,_⟩:∃g i t,u3=.slice (some ⟨g,0,none⟩) (p+1) i/\w.heap.size<=g/\wr.heap[g]?=some (.cells t 211 (0,0))/\p+1<=i/\i<=maxLen/\True:=(by rcases d.2 with ⟨_,aw⟩|⟨g,i,t,a7,a8,a9,aa,ab,_⟩;omega;exact ⟨g,i,t,a7,a8,a9,aa,ab,trivial⟩);have V:(cG (f++ [(a,n)]))[p*2]?=some (iv a):=(by have:=jV (f++ [(a,n)]) p 0 (a,n) (by rw [zAo oM,q];simp) oM;simpa [lB] using this);have X:(cG (f++ [(a,n)]))[p*2+1]?=some (iv n):=(by have:=jV (f++ [(a,n)]) p 1 (a,n) (by rw [zAo oM,q];simp) oM;simpa [lB] using this);have au:wr.cell? ⟨g,p*2,none⟩=some (.int .i64 a):=(d.cellAt (p*2) oM).trans V;have av:wr.cell? ⟨g,p*2+1,none⟩=some (.int .i64 (n:Int)):=(d.cellAt (p*2+1) oM).trans X;have ar:=d.frozenAt (p*2+1);have aD:(n:Int)<=1099511627776:=(by have:=F (a,n) (by simp);simp only at this;omega);have aF:((p+1:Nat):Int) - 1=(p:Int):=oM;have s:=lhd q;clear V X q N af F;by_cases m:a=j
      · have an:(a==j)=true:=(by rw [zCq];exact m);have z:=lhd m;clear m;go_wp2;obtain ⟨al,aA⟩:=d.stored (p*2+1) (.int .i64 ((n:Int)+1));refine ⟨⟨k+1,by omega,by go_num,?_,l.setCell (p:=⟨g,p*2+1,none⟩) ae _⟩,by simp [intOf];omega⟩;rw [y.out,<-z.out,iH];have B:(f++ [(a,n+1)]).length=p+1:=(by simp [s.out]);have a6:(cG (f++ [(a,n)])).set (p*2+1) (.int .i64 ((n:Int)+1))=cG (f++ [(a,n+1)]):=(by rw [jP,jP,List.set_append_right _ _ (by rw [rN,s.out];omega),rN,s.out];congr 1;rw [show p*2+1 - p*2=1 by omega];rfl);rw [B,<-a6];exact al
      · have an:(a==j)=false:=(by rw [zCb];exact m);have z:=lhd m;clear m;go_wp2_with (at_builtin;refine bL _ rfl (.tmp 36) (.tmp 39) _ rfl w.heap.size 211 a1 _ 2 16 underlying208 M Y Z a0 rfl dC (.slice (some ⟨g,0,none⟩) (p+1) i) (p+1) _ rfl d rfl rfl (by simp [Value.oneCell']) (by unfold maxLen;omega) oM u ?_;intro ao ap G o ak C);have E:=aZ l d o u;clear o C;go_roundw
        case rel=>refine ⟨k+1,by omega,by go_num,?_,E⟩;rw [y.out,gL _ _ _ _ z.out,jP];have B:(f++ [(a,n)]++ [(j,1)]).length=p+1+1:=(by simp [s.out]);rw [B];exact G
        case measure=>simp [intOf];omega
  · have ag:k=e:=oM;have U:b.take k=b:=zAg (by have:=x.out;omega);have az:e<=k:=oM;rw [U] at d;clear ag U;go_wp2;go_ret;exact ⟨u3,rfl,d,l⟩
def aJu (A d c e i w) (j:List (Int×Nat)) (n) (m:bO i=j) (s:j.length=n) (u:Rd w e 1 A d (i.map iv)) (o:e<=w.heap.size) (f:d<=1099511627776):
 Calls prog 188 #[.slice A d c] w fun l w'=>∃a b,l=.returned (.slice a n b)/\Made w' w.heap.size 211 2 a n b (cG j)/\Below w.heap.size w w':=by
 subst m;subst s;refine (aLx A d c e i w u o f).mono fun l w' ⟨v,r,t,q⟩=>?_;obtain ⟨a,b,rfl,f⟩:=aS t;exact ⟨a,b,r,f,q⟩
end
section
def aA4:(prog.info? 3).map (fun a=>(a.zero,a.size,a.bytes))=some (some (.int .i64 0),1,8):=by kernel_rfl
def aGh (b) (a:Int×Nat) (d:a∈bO b):a.1∈b:=by
 have f:=(aAz b).1 a d;have e:a.1∈eU (bO b):=List.mem_flatMap.2 ⟨a,d,List.mem_replicate.2 ⟨by omega,rfl⟩⟩;rwa [nZ] at e
def aCk {b} (d:∀a∈b,a < 257):∀a∈bO (jS b),kL a.1:=by
 intro a e;obtain ⟨i,f,j⟩:=zAy.1 (aGh _ a e);have:=d i f;unfold kL;omega
def oK (a):(jS a).length=a.length:=by simp [jS]
def aEL {a} (b:∀d∈a,d < 257):rO (jS a)=some (gY a):=by
 unfold rO;rw [zBx (aCk b)];rfl
def qR (a):(gY a).length<=11+22*a.length:=by
 unfold gY;have e:=uR (bO (jS a));have d:=mM (jS a);have f:=dJ (bO (jS a)).length;rw [oK] at d;have b:fK (bO (jS a))=cC (bO (jS a)).length++(bO (jS a)).flatMap cT:=by simp [fK]
 rw [b,zAi];omega
def aA2 (b:List Nat) (a k:Nat):List UInt8:=(List.range k).flatMap fun k=>cC (b.idxOf (k*a))
def tO (b a k):aA2 b a (k+1)=aA2 b a k++cC (b.idxOf (k*a)):=by
 unfold aA2;rw [List.range_succ,List.flatMap_append];simp
def rJ (b a k):(aA2 b a k).length<=11*k:=by
 induction k with
 | zero=>simp [aA2]
 | succ k d=>
   rw [tO,zAi];have:=dJ (b.idxOf (k*a));omega
def vW (d a b):wW d a b=aA2 d a (b / a+1):=rfl
def aJX (b a k):k<=(aA2 b a k).length:=by
 induction k with
 | zero=>simp
 | succ k d=>
   rw [tO,zAi];have:=aI4 (b.idxOf (k*a));omega
def aLc {k a b} (i:1<=a) (f:k<=b / a+1) (d:¬k*a<=b):k=b / a+1:=by
 have e:b / a < k:=(Nat.div_lt_iff_lt_mul oM).2 oM;omega
def aK5 {k a b} (e:1<=a) (d:k*a<=b):k+1<=b / a+1:=by
 have:=(Nat.le_div_iff_mul_le oM).2 d;omega
end
section
open Go.RowKit
def aGc (a w) (d:kL a):Calls prog 113 #[(a:Int)] w fun b w'=>b=.returned (.bool true)/\w=w':=by
 obtain ⟨e,f⟩:=d;go_enter func113,ntmps113;go_wp2;go_ret;exact ⟨bH (by simp <;> omega),rfl⟩
def aHY (a w) (d:¬kL a):Calls prog 113 #[(a:Int)] w fun b w'=>b=.returned (.bool false)/\w=w':=by
 have e:a < 0∨(0<=a/\257<=a):=by unfold kL at d;omega
 rcases e with f |⟨f,i⟩
 · go_enter func113,ntmps113;go_wp2;go_ret;exact ⟨bH (by simp <;> omega),rfl⟩
 · go_enter func113,ntmps113;go_wp2;go_ret;exact ⟨bH (by simp <;> omega),rfl⟩
def aKB (w w':World) (d:Option (List UInt8)) (b:Ending):Prop:=
 (∃a A c,d=some a/\b=.returned (.tuple #[.slice A a.length c,o0])/\Made w' w.heap.size 5 1 A a.length c (a.map bv))∨
 (d=none/\b=.returned (.tuple #[(),(1:Int)]))
def aFf (A B c U i w) (M:Rd w U 1 A B (i.map iv)) (aH:U<=w.heap.size) (bd:B<=1000000):
 Calls prog 123 #[.slice A B c] w fun o w'=>aKB w w' (rO i) o/\Below w.heap.size w w':=by
 obtain ⟨b2,aL,aY,b0,b1⟩:=info_parts lF;have aO:i.length=B:=by simpa using M.1
 obtain ⟨a,t⟩:=eqx (bO i);obtain ⟨n,a9⟩:=eqx a.length;have be:n<=1000000:=by have:=mM i;rw [t] at this;omega
 have a0:∀b∈a,b.2<=1000000:=fun b d=>by have:=qJ i b (by rw [t];exact d);omega
 have am:=lhd a0;have ac:rO i=if ∀b∈a,kL b.1 then some (fK a) else none:=by unfold rO;rw [t]
 obtain ⟨V,az,m,ax⟩:=hqq4 ac t a9 M;have b7:=kh w.heap.size w;clear M aO t a9 ac a0;go_enter func123,ntmps123;go_wp2_with fail;refine (aJu _ _ _ _ i _ a n az.out m.out ax.out aH oM).mono ?_;rintro o w1 ⟨C,F,rfl,a4,I⟩;have aU:=I.size;have av:=lhd a4.own;clear a4;obtain ⟨k0,K⟩:=eqx ((cC n).length);have bb:k0<=11:=by rw [<-K];exact dJ n
 have ap:=lhd K;clear K;go_wp2_with fail;refine (zA _ _ _ _ [n] _ (cC n) k0 (qS n) ap.out (Rd.made _ _ 1 1 _ rfl) nL (by simp;omega) oM).mono ?_;rintro o R ⟨ak,aB,rfl,a5,v⟩;have Y:=(I.alloc aU _).trans (v.mono (by simp;omega));have bh:=Y.size;have bg:w1.heap.size < R.heap.size:=by have:=v.size;simp at this;omega
 have aP:R.ownsRow w.heap.size 5 1 (.slice ak k0 aB) k0 ((cC n).map bv):=bN a5.own (by simp;omega);have f:R.ownsRow w.heap.size 211 2 (.slice C n F) n (cG a):=aQ (av.out.alloc _) v;clear a5 v I;go_wp2_with fail;go_loopw [5,17] (fun b4 O wr=>∃k j:Nat,k<=n/\O=.int .i64 k/\wr.ownsRow w.heap.size 5 1 b4 j ((cC n++(a.take k).flatMap cT).map bv)/\wr.ownsRow w.heap.size 211 2 (.slice C n F) n (cG a)/\Below w.heap.size w wr/\∀b∈a.take k,kL b.1) (fun _ O _=>n -(intOf O).toNat)
 case atStart=>exact ⟨0,k0,zAp _,rfl,by simpa using aP,f,Y,by simp⟩
 case round=>
  obtain ⟨k,j,ba,rfl,s,f,u,ab⟩:=hrel;have E:=lhd ab;have af:=u.size;have bf:j<=22000011:=by have H:=s.1;have X:=uR (a.take k);have aF:=dJ n;rw [zAj] at X;simp only [zBc,zAi] at H;omega
  clear ab;by_cases a3:k < n
  · obtain ⟨b,d⟩:∃b,a[k]?=some b:=⟨a[k]'(by have:=m.out;omega),zAa (by have:=m.out;omega)⟩;obtain ⟨g,aG,b9⟩:∃g,C=some ⟨g,0,none⟩/\g < wr.heap.size:=(by obtain ⟨g,b6,aV,_,a3⟩:=f.form oM;injection aV with H X aF;exact ⟨g,H,a3⟩);subst aG;have aD:wr.cell? ⟨g,k*2,none⟩=some (.int .i64 b.1):=(f.cellAt (k*2) oM).trans ((jV a k 0 b d oM).trans rfl);have aE:wr.cell? ⟨g,k*2+1,none⟩=some (.int .i64 (b.2:Int)):=(f.cellAt (k*2+1) oM).trans ((jV a k 1 b d oM).trans rfl);have aa:=zO a k b d;have aW:=am.out b (zAd d);have a2:∀e∈a.take (k+1),e∈a.take k∨e=b:=(by intro e ah;have aM:k < a.length:=(zAc.1 d).1;rw [List.take_succ_eq_append_getElem aM,(zAc.1 d).2] at ah;simpa using ah);have a8:=zAd d;obtain ⟨b3,e⟩:=b;simp only at aD aE aW;obtain ⟨au,ao,ar⟩:=hqq3 aa a2 a8;clear aa d a2 a8;by_cases q:kL b3
    · obtain ⟨l,rfl⟩:=Int.eq_ofNat_of_zero_le q.1;have bi:(l:Int) < 257:=q.2;have r:=lhd q;clear q;obtain ⟨z,L⟩:=eqx ((cT ((l:Int),e)).length);have bc:z<=22:=(by rw [<-L];exact uM _);have aq:=lhd L;have a1:dU [l,e]=cT ((l:Int),e):=(by simp [dU,cT]);have an:=lhd a1;clear L a1;go_wp2_with (go_at_call 113;refine (aGc _ _ r.out).mono ?_;rintro o b5 ⟨rfl,rfl⟩);refine (zA _ _ _ _ [l,e] _ (cT ((l:Int),e)) z an.out aq.out (Rd.made' _ _ 1 2 _ _ rfl (by simp)) nL (by simp;omega) oM).mono ?_;rintro o S ⟨al,aC,rfl,a7,x⟩;have Z:=((u.alloc af _).alloc (by simp;omega) _).trans (x.mono (by simp;omega));have ae:=Z.size;have y:S.ownsRow w.heap.size 5 1 u5 j ((cC n++(a.take k).flatMap cT).map bv):=aQ ((s.alloc _).alloc _) x;have N:S.ownsRow w.heap.size 211 2 (.slice (some ⟨g,0,none⟩) n F) n (cG a):=aQ ((f.alloc _).alloc _) x;have ay:=lhd a7.rd;have aw:=lhd (iY (cT ((l:Int),e)));clear a7 x s f;go_wp2_with (at_builtin;refine bF _ rfl (.tmp 25) (.tmp 33) _ rfl w.heap.size 5 b2 (.int .u8 0) 1 1 underlying22 aL aY b0 b1 rfl dC u5 j _ rfl y S.heap.size al z aC _ rfl ay.out aw.out (by unfold maxLen;omega) oM ae ?_;intro bj bk aR J aK);have aI:=aZ Z y J ae;have aT:=N.kept J (aEx N y dC);clear J aK N y;go_roundw
      case rel=>refine ⟨k+1,j+z,by omega,by go_num,?_,aT,aI,?_⟩;rw [au.out,<-zCo,zAz];exact aR;intro ai aX;rcases ao.out ai aX with G | G;exact E.out ai G;rw [G];exact r.out
      case measure=>simp [intOf];omega
    · have r:=lhd q;clear q;go_wp2_with (go_at_call 113;refine (aHY _ _ r.out).mono ?_;rintro o b5 ⟨rfl,rfl⟩);go_ret2;refine ⟨.inr ⟨?_,rfl⟩,u.alloc af _⟩;rw [V.out,zBw];intro aJ;exact r.out (aJ _ ar.out)
  · have aN:k=n:=oM;have b8:n<=k:=oM;have ag:a.take k=a:=zAg (by have:=m.out;omega);rw [ag] at s E;clear aN ag f;obtain ⟨aj,aA,rfl,a6⟩:=aS s;go_wp2;go_ret2;have ad:(fK a).length=j:=(by have:=a6.len;rw [zBc] at this;rw [<-this,fK,m.out]);refine ⟨.inl ⟨fK a,aj,aA,?_,?_,?_⟩,u⟩
    · rw [V.out,zBx E.out]
    rw [ad];rfl;rw [ad,fK,m.out];exact a6
def aB3 (w w':World) (a:List Int×Int) (b:Ending):Prop:=
 ∃A c,b=.returned (.tuple #[.slice A a.1.length c,(a.2:Int)])/\Made w' w.heap.size 3 1 A a.1.length c (a.1.map iv)
def iF {w w'} {a:List Int×Int} {k} (b:([],k)=a):aB3 w w' a (.returned (.tuple #[(),(k:Int)])):=by
 subst b;exact ⟨none,0,rfl,⟨kj _ _ _ _,Rd.nil _ _ _ _,zAs _,zAp _⟩⟩
def vE (A u c e most w) (J:TypeInfo) (aE:prog.info? 3=some J) (aJ:J.zero=some (.int .i64 0)) (aK:J.size=1) (aL:J.bytes=8) (G:Hid (e.length=u)) (aa:Hid (Rd w w.heap.size 1 A u (e.map bv))) (aw:Below w.heap.size w w) (l:u<=c) (j:c<=maxLen) (v:List Int×Int) (Z K) (ay:K<=u) (ao:Hid (eS e 0=(Z,(K:Int),0))) (ar:Hid (Z < 18446744073709551616)) (f) (ap:Hid (rgo e f Z K 257 []=v)) (b0:f<=1099511627776) (ae:most=(f:Int)∨(most < 0/\f<=0)):
 Calls prog 131 #[.slice A u c,(most:Int)] w fun a w'=>aB3 w w' v a/\Below w.heap.size w w':=by
 have a8:=lhd ae;clear ae;go_enter func131,ntmps131;go_wp2_with (go_at_call 190;refine (fQ _ _ _ _ _ _ _ _ _ _ ao.out aa.out l j).mono ?_;rintro a q ⟨rfl,rfl⟩);go_loopw [6,7,9,10] (fun a6 aN a5 aO wr=>∃(n r t:Nat) (o:List Int),a6=.int .u64 (n:Int)/\aN=.int .i64 (r:Int)/\aO=.int .u64 (t:Int)/\wr.ownsRow w.heap.size 3 1 a5 o.length (o.map iv)/\o.length<=f/\r<=u/\n < 18446744073709551616/\rgo e f n r t o=v/\Below w.heap.size w wr) (fun a6 _ _ _ _=>(intOf a6).toNat)
 case atStart=>exact ⟨Z,K,257, [],rfl,rfl,rfl,kj _ _ _ _,zAp _,ay,ar.out,ap.out,aw⟩
 case round=>
  obtain ⟨n,r,t,o,rfl,rfl,rfl,H,az,ax,ai,af,s⟩:=hrel;obtain ⟨B,aq⟩:=hqq2 af ai;have b2:=s.size;have aj:=aa.out.below s;have m:=lhd aj;clear af ai aj;rcases n with _ | n
  · have aV:((0:Nat):Int)=0:=rfl;by_cases R:r=u
    · have d:(o,0)=v:=(by rw [<-B.out,rgo,zBx (by rw [G.out];exact R)]);have i:=lhd d;have a3:((r:Int)==(u:Int))=true:=(by rw [zCq];omega);obtain ⟨a7,ad,rfl,a2⟩:=aS H;clear R d H;go_wp2;go_ret2;refine ⟨?_,s⟩;rw [<-i.out];exact ⟨a7,ad,rfl,a2⟩
    · have d:([],4)=v:=(by rw [<-B.out,rgo,zBw (by rw [G.out];exact R)]);have i:=lhd d;have a3:((r:Int)==(u:Int))=false:=(by rw [zCb];omega);clear R d;go_wp2;go_ret2;exact ⟨iF i.out,s⟩
  · have I:r<=e.length:=(by rw [G.out];exact ax);rcases h1:eT (e.drop r) true 0 r with _ |⟨b,F⟩
    · have d:([],4)=v:=(by rw [<-B.out,aCE _ _ _ _ _ _ (aCw _ _ h1)]);obtain ⟨i,y⟩:=hqq2 d (qQ e r I h1);clear d I h1;go_wp2_with (go_at_call 190;refine (fQ _ _ _ _ _ _ _ _ _ _ y.out m.out l j).mono ?_;rintro a q ⟨rfl,rfl⟩);go_ret2;exact ⟨iF i.out,s⟩
    · have U:=xU _ _ _ _ _ _ h1;have C:=qP e r b F I h1;have aI:F<=u:=(by rw [zAw,G.out] at U;omega);have Y:F<=e.length:=(by rw [G.out];exact aI);obtain ⟨y,aQ⟩:=hqq2 C U.2.2;rcases h2:eT (e.drop F) true 0 F with _ |⟨k,a⟩
      · have d:([],4)=v:=(by rw [<-B.out,aCE _ _ _ _ _ _ (aCv _ _ _ _ h1 h2)]);obtain ⟨i,z⟩:=hqq2 d (qQ e F Y h2);clear d I h1 h2 C U Y;go_wp2_with fail;refine (fQ _ _ _ _ _ _ _ _ _ _ y.out m.out l j).mono ?_;rintro a q ⟨rfl,rfl⟩;go_wp2_with fail;refine (fQ _ _ _ _ _ _ _ _ _ _ z.out m.out l j).mono ?_;rintro a q ⟨rfl,rfl⟩;go_wp2;go_ret2;exact ⟨iF i.out,s⟩
      · have a1:=xU _ _ _ _ _ _ h2;have M:=qP e F k a Y h2;have aC:a<=u:=(by rw [zAw,G.out] at a1;omega);have z:=lhd M;have ak:rgo e f (n+1) r t o=if 257<=b∨b=t∨k=0 then ([],4) else if f - o.length < k then ([],3) else rgo e f n a b (o++List.replicate k (b:Int)):=aCD _ _ _ _ _ _ _ _ _ (xB _ _ _ _ _ _ h1 h2);obtain ⟨ab,aP⟩:=hqq2 ak a1.2.2;clear I h1 h2 C U Y M a1 ak;by_cases N:257<=b∨b=t∨k=0
        · have d:([],4)=v:=(by rw [<-B.out,ab.out,zBx N]);have i:=lhd d;have aB:257<=b∨(b < 257/\b=t)∨(b < 257/\b≠t/\k=0):=oM;clear d N;rcases aB with L |⟨L,a0⟩|⟨L,a0,av⟩
          · go_wp2_with fail;refine (fQ _ _ _ _ _ _ _ _ _ _ y.out m.out l j).mono ?_;rintro a q ⟨rfl,rfl⟩;go_wp2_with fail;refine (fQ _ _ _ _ _ _ _ _ _ _ z.out m.out l j).mono ?_;rintro a q ⟨rfl,rfl⟩;go_wp2;go_ret2;exact ⟨iF i.out,s⟩
          · subst a0;go_wp2_with fail;refine (fQ _ _ _ _ _ _ _ _ _ _ y.out m.out l j).mono ?_;rintro a q ⟨rfl,rfl⟩;go_wp2_with fail;refine (fQ _ _ _ _ _ _ _ _ _ _ z.out m.out l j).mono ?_;rintro a q ⟨rfl,rfl⟩;go_wp2;go_ret2;exact ⟨iF i.out,s⟩
          · subst av;have a3:((b:Int)==(t:Int))=false:=(by rw [zCb];omega);clear a0;go_wp2_with fail;refine (fQ _ _ _ _ _ _ _ _ _ _ y.out m.out l j).mono ?_;rintro a q ⟨rfl,rfl⟩;go_wp2_with fail;refine (fQ _ _ _ _ _ _ _ _ _ _ z.out m.out l j).mono ?_;rintro a q ⟨rfl,rfl⟩;go_wp2;go_ret2;exact ⟨iF i.out,s⟩
        · have aR:b < 257:=oM;have aY:0 < k:=oM;have b3:((k:Int)==0)=false:=(by rw [zCb];omega);have b4:decide ((257:Int)<=(b:Int))=false:=(by simp;omega);have a3:((b:Int)==(t:Int))=false:=(by rw [zCb];omega);obtain ⟨E,X⟩:=eqx o.length;have al:rgo e f (n+1) r t o=if f - E < k then ([],3) else rgo e f n a b (o++List.replicate k (b:Int)):=(by rw [ab.out,zBw N,X]);obtain ⟨ac,a9⟩:=hqq2 al X;rw [X] at H az;obtain ⟨a7,ad,rfl,a2⟩:=aS H;have au:=lhd H;have aG:=aq.out;have aF:∃aM:Int,aM=(f:Int) -(E:Int):=⟨_,rfl⟩;clear N al X a2 H aF;by_cases S:f - E < k
          · have d:([],3)=v:=(by rw [<-B.out,ac.out,zBx S]);have i:=lhd d;have aD:(f:Int) -(E:Int) < (k:Int):=oM;clear d S aG;rcases a8.out with O |⟨O,aT⟩
            · subst O;go_wp2_with fail;refine (fQ _ _ _ _ _ _ _ _ _ _ y.out m.out l j).mono ?_;rintro a q ⟨rfl,rfl⟩;go_wp2_with fail;refine (fQ _ _ _ _ _ _ _ _ _ _ z.out m.out l j).mono ?_;rintro a q ⟨rfl,rfl⟩;go_wp2;go_ret2;exact ⟨iF i.out,s⟩
            · go_wp2_with fail;refine (fQ _ _ _ _ _ _ _ _ _ _ y.out m.out l j).mono ?_;rintro a q ⟨rfl,rfl⟩;go_wp2_with fail;refine (fQ _ _ _ _ _ _ _ _ _ _ z.out m.out l j).mono ?_;rintro a q ⟨rfl,rfl⟩;go_wp2;go_ret2;exact ⟨iF i.out,s⟩
          · have d:rgo e f n a b (o++List.replicate k (b:Int))=v:=(by rw [<-B.out,ac.out,zBw S]);have i:=lhd d;have aD:(k:Int)<=(f:Int) -(E:Int):=oM;have O:most=(f:Int):=(by rcases a8.out with L |⟨_,L⟩<;> omega);subst O;clear d S;go_wp2_with fail;refine (fQ _ _ _ _ _ _ _ _ _ _ y.out m.out l j).mono ?_;rintro a q ⟨rfl,rfl⟩;go_wp2_with fail;refine (fQ _ _ _ _ _ _ _ _ _ _ z.out m.out l j).mono ?_;rintro a q ⟨rfl,rfl⟩;go_wp2;go_loopw [9,73] (fun a5 a4 an=>∃x:Nat,x<=k/\a4=.int .u64 (x:Int)/\an.ownsRow w.heap.size 3 1 a5 (E+x) ((o++List.replicate x (b:Int)).map iv)/\Below w.heap.size w an) (fun _ a4 _=>k -(intOf a4).toNat)
            case atStart=>exact ⟨0,zAp _,rfl,by simpa using au.out,s⟩
            case round=>
             obtain ⟨x,aW,rfl,V,C⟩:=hrel;have am:=C.size;by_cases aX:x < k
             · go_wp2_with (at_builtin;refine bL _ rfl (.tmp 75) (.tmp 78) _ rfl w.heap.size 3 J (.int .i64 0) 1 8 underlying39 aE aJ aK aL rfl dC u9 (E+x) _ rfl V rfl rfl (by simp [Value.oneCell']) (by unfold maxLen;omega) oM am ?_;intro b5 b6 aH ag b1 aA);have M:=aZ C V ag am;clear ag aA;go_roundw
               case rel=>refine ⟨x+1,by omega,by go_num,?_,M⟩;rw [List.replicate_succ',<-zCo,zAz];exact aH
               case measure=>simp [intOf];omega
             · have ah:x=k:=oM;have aU:k<=x:=oM;rw [ah] at V;clear ah;go_wp2;refine ⟨⟨n,a,b,o++List.replicate k (b:Int),dS oM,rfl,rfl,?_,?_,aC,by omega,i.out,C⟩,by simp [intOf]⟩;rw [zAi,zCn,a9.out];exact V;rw [zAi,zCn,a9.out];omega
def aFg (A d c z a most w) (r:Rd w z 1 A d (a.map bv)) (O:z<=w.heap.size) (y:d<=c) (v:c<=maxLen) (S:most<=1099511627776) (U:-9223372036854775808<=most):
 Calls prog 131 #[.slice A d c,(most:Int)] w fun E w'=>aB3 w w' (mU a most) E/\Below w.heap.size w w':=by
 obtain ⟨N,G,K,L,M⟩:=info_parts aA4;have x:a.length=d:=by simpa using r.1
 obtain ⟨B,s⟩:=hqq2 x (r.mono O);have t:=kh w.heap.size w;obtain ⟨q,l⟩:=eqx (mU a most);rw [l];rcases hfirst:eT a true 0 0 with _ |⟨m,e⟩
 · have i:eS a 0=(0,0,4):=qQ a 0 (zAp _) (by simpa using hfirst);have j:([],4)=q:=(by rw [<-l,mU,hfirst]);obtain ⟨o,f⟩:=hqq2 i j;clear r x l i j hfirst;go_enter func131,ntmps131;go_wp2_with (go_at_call 190;refine (fQ _ _ _ _ _ _ _ _ _ _ o.out s.out y v).mono ?_;rintro E Y ⟨rfl,rfl⟩)
   go_loop [6] (fun X=>X=.int .u64 0) (fun _=>0)
   case atStart=>rfl
   case round=>subst hrel;go_wp2;go_ret2;exact ⟨iF f.out,t⟩
 have H:=xU _ _ _ _ _ _ hfirst;have i:eS a 0=(m,(e:Int),0):=qP a 0 m e (zAp _) (by simpa using hfirst);have j:rgo a most.toNat m e 257 []=q:=(by rw [<-l,mU,hfirst]);have F:e<=d:=oM;obtain ⟨o,f,C⟩:=hqq3 i j H.2.2;obtain ⟨b,J⟩:∃b:Nat,most.toNat=b:=⟨_,rfl⟩;rw [J] at f;have I:b<=1099511627776:=oM;have u:most=(b:Int)∨(most < 0/\b<=0):=oM;clear r x l i j hfirst H J S U;rcases u with u |⟨V,R⟩;subst u;exact vE A d c a (b:Int) w N G K L M B s t y v q m e F o C b f I (.inl rfl);exact vE A d c a most w N G K L M B s t y v q m e F o C b f I (.inr ⟨V,R⟩)
def aHo (A d c e f most w i n k) (o:mU f most=(i,k)) (x:i.length=n) (y:Rd w e 1 A d (f.map bv)) (q:e<=w.heap.size) (t:d<=c) (s:c<=maxLen) (u:most<=1099511627776) (v:-9223372036854775808<=most):
 Calls prog 131 #[.slice A d c,(most:Int)] w fun j w'=>∃a b,j=.returned (.tuple #[.slice a n b,(k:Int)])/\Made w' w.heap.size 3 1 a n b (i.map iv)/\Below w.heap.size w w':=by
 subst x;refine (aFg A d c e f most w y q t s u v).mono fun j w' ⟨⟨a,b,l,m⟩,r⟩=>?_;rw [o] at l m;exact ⟨a,b,l,m,r⟩
def fP (T D:List UInt8) (k:Nat):List Nat:=(List.range k).filter fun a=>D.isPrefixOf (T.drop a)
def dT (T D:List UInt8):List Nat:=fP T D (T.length+1 - D.length)
def nv (a:Nat):Value:=iv (a:Int)
def xV (T D k) (a:D.isPrefixOf (T.drop k)=true):fP T D (k+1)=fP T D k++ [k]:=by
 simp [fP,List.range_succ,List.filter_append,a]
def tX (T D k) (a:D.isPrefixOf (T.drop k)=false):fP T D (k+1)=fP T D k:=by
 simp [fP,List.range_succ,List.filter_append,a]
def tY (T D k):(fP T D k).length<=k:=by
 have:=zCu (fun a=>D.isPrefixOf (T.drop a)) (List.range k);rw [zCi] at this;exact this
structure Told where
 code:Int
 num:Int
 data:List UInt8
 places:List Nat
def gX (a:Told) (b:Option Addr) (e:Nat) (d:Option Addr) (f:Nat):Array Value:=#[.int .i64 a.code,.int .i64 a.num,.slice b a.data.length e,.slice d a.places.length f]
def aU (kind p k:Int) (AD:Option Addr) (nd cd:Nat):Value:=.agg #[(kind:Int),(p:Int),(k:Int),.slice AD nd cd]
def aM (w a b):Made w a b 1 none 0 0 []:=⟨kj _ _ _ _,Rd.nil _ _ _ _,zAs _,zAp _⟩
def dL (n:Nat) (p k:Int):Bool:=decide (0<=p/\0<=k/\p<=(n:Int)/\k<=(n:Int) - p)
def doM (T:List UInt8) (most kind p k:Int) (D:List UInt8):List UInt8×Told:=
 if kind=1 then
    if dL T.length p 0=false then (T,⟨2,0, [], []⟩) else if most -(T.length:Int) < (D.length:Int) then (T,⟨3,0, [], []⟩) else (T.take p.toNat++(D++T.drop p.toNat),⟨0,0, [], []⟩)
 else if kind=2 then
    if dL T.length p k=false then (T,⟨2,0, [], []⟩) else (T.take p.toNat++T.drop (p.toNat+k.toNat),⟨0,0, [], []⟩)
 else if kind=5 then
    if dL T.length p k=false then (T,⟨2,0, [], []⟩) else (T,⟨0,0,(T.drop p.toNat).take k.toNat, []⟩)
 else if kind=3 then
    if dL T.length p (D.length:Int)=false then (T,⟨2,0, [], []⟩) else (T.take p.toNat++(D++T.drop (p.toNat+D.length)),⟨0,0, [], []⟩)
 else if kind=4 then (T,⟨0,(T.length:Int), [], []⟩)
 else if kind=6 then (T,⟨0,((dT T D).length:Int), [], []⟩)
 else if kind=7 then (T,⟨0,((dT T D).length:Int), [],dT T D⟩)
 else if kind=8 then (T,⟨0,0, [], []⟩)
 else (T,⟨1,0, [], []⟩)
def fS {n p k} (d:dL n p k=true):∃a b:Nat,p=(a:Int)/\k=(b:Int)/\a+b<=n:=by
 unfold dL at d;have:=of_decide_eq_true d;exact ⟨p.toNat,k.toNat,by omega,by omega,by omega⟩
def kO:(prog.info? 5).map (fun a=>(a.zero,a.size,a.bytes))=some (some (.int .u8 0),1,1):=by kernel_rfl
def uQ:(prog.info? 3).map (fun a=>(a.zero,a.size,a.bytes))=some (some (.int .i64 0),1,8):=by kernel_rfl
def gM {w:World} {b n:Nat} {A:Option Addr} {a:List UInt8} (d:Rd w b 1 A n (a.map bv)):∀c,(convert 22 9 (.slice A n c)).run prog w=.ok (.string ⟨a.toArray⟩) w:=
 fun c=>kN (P:=prog) 22 9 5 underlying22 underlying5 underlying9 d
def Rd.keepF {e w w' d o n A q} (j:Rd w d o A n q) (k:Keep e w w') (v:d<=w.heap.size) (s:0 < n->∀f,A=some f->¬e f.block):Rd w' w'.heap.size o A n q:=
 ⟨j.1,fun l=>by
   obtain ⟨a,b,i,x,r⟩:=j.2 l;exact ⟨a,b,i,by have:=k.size;omega,fun m u t=>(k.cell (p:=⟨a,b+m,none⟩) (by simp only;omega) (by exact s l ⟨a,b,none⟩ i)).trans (r m u t)⟩⟩
def PlS (w:World) (gp:Nat) (T:List UInt8):Prop:=∃A c,Bk w gp 55 #[.slice A T.length c]/\Rd w w.heap.size 1 A T.length (T.map bv)/\T.length<=c/\(0 < T.length->∀a,A=some a->a.block≠gp/\∃b,Bk w a.block 5 b)
def PlS.keep {w w' gp T} (l:PlS w gp T) (k:Grow w w'):PlS w' gp T:=by
 obtain ⟨A,c,e,m,o,f⟩:=l
 exact ⟨A,c,e.below k e.lt,(m.below k).mono (Below.size k),o,fun d a i=>⟨(f d a i).1,by
  obtain ⟨j,b⟩:=(f d a i).2;exact ⟨j,b.below k b.lt⟩⟩⟩
structure DoF (w W:World) (g gp n c nd cd:Nat) (A AD:Option Addr) (T D:List UInt8) (most kind p k:Int):Prop where
 low:Below w.heap.size w W
 step:Bk W w.heap.size 44 #[(kind:Int),(p:Int),(k:Int),.slice AD nd cd]
 res:Bk W (w.heap.size+1) 41 #[o0,o0,(),()]
 mod:Bk W g 57 #[gp,(most:Int)]
 pl:Bk W gp 55 #[.slice A n c]
 rT:Rd W w.heap.size 1 A n (T.map bv)
 rD:Rd W w.heap.size 1 AD nd (D.map bv)
 gpl:gp < w.heap.size
 gne:g≠gp
 gll:g < w.heap.size
section
variable {w W W' : World} {g gp n c nd cd : Nat} {A AD : Option Addr} {T D : List UInt8} {most kind p k : Int}
def DoF.grow (a:DoF w W g gp n c nd cd A AD T D most kind p k) (b:Grow W W'):DoF w W' g gp n c nd cd A AD T D most kind p k:=
 ⟨a.low.trans (Below.mono b a.low.size),a.step.below b a.step.lt,a.res.below b a.res.lt,a.mod.below b a.mod.lt,a.pl.below b a.pl.lt,a.rT.below (Below.mono b a.low.size),a.rD.below (Below.mono b a.low.size),a.gpl,a.gne,a.gll⟩
end
structure MS (w0 w:World) (g gp:Nat) (T:List UInt8) (most:Int):Prop where
 low:Below w0.heap.size w0 w
 g0:w0.heap.size<=g
 gp0:w0.heap.size<=gp
 ne:g≠gp
 mod:Bk w g 57 #[gp,(most:Int)]
 pl:PlS w gp T
section
variable {w0 w w' : World} {g gp : Nat} {T : List UInt8} {most : Int}
def MS.grow (a:MS w0 w g gp T most) (b:Below w.heap.size w w'):MS w0 w' g gp T most:=⟨a.low.trans (Below.mono b a.low.size),a.g0,a.gp0,a.ne,a.mod.below b a.mod.lt,a.pl.keep b⟩
def MS.alloc (b:MS w0 w g gp T most) (a:Obj):MS w0 (w.alloc a) g gp T most:=b.grow (bR.alloc nL a)
def MS.size (a:MS w0 w g gp T most):w0.heap.size<=w.heap.size:=a.low.size
def PlS.lt (a:PlS w gp T):gp < w.heap.size:=by
 obtain ⟨A,c,b,_⟩:=a;exact b.lt
structure Ans (w0 w w':World) (g gp:Nat) (T2:List UInt8) (most:Int) (X:List UInt8) (L:List Nat) (A1:Option Addr) (c1:Nat) (A2:Option Addr) (c2:Nat):Prop where
 ms:MS w0 w' g gp T2 most
 keep:Keep (fun b=>b=gp) w w'
 data:Made w' w.heap.size 5 1 A1 X.length c1 (X.map bv)
 places:Made w' w.heap.size 3 1 A2 L.length c2 (L.map nv)
end
def Ans.bk {w0 w w' g gp j most l i e m f o} (r:Ans w0 w w' g gp j most l i e m f o) {a d b} (s:Bk w a d b) (t:gp < a):Bk w' a d b:=
 r.keep.bk s fun q=>absurd (show a=gp from q) oM
def aHt (k:Nat) (b:k<=3) (w):Calls prog 150 #[.int .u64 1,.int .u64 (k:Int)] w fun a w'=>a=.returned (.tuple #[.int .u64 0,.int .u64 (k:Int)])/\w=w':=by
 obtain rfl | rfl | rfl | rfl:k=0∨k=1∨k=2∨k=3:=oM
 all_goals
  go_enter func150,ntmps150;go_wp2_with fail;go_ret2;exact ⟨rfl,rfl⟩
def aKE (k:Nat) (b:k<=3) (w):Calls prog 88 #[.int .u64 1,.int .u64 (k:Int)] w fun a w'=>a=.returned (.tuple #[.int .u64 0,.int .u64 (k:Int)])/\w=w':=by
 go_enter func88,ntmps88;go_wp2_with fail;refine (aHt k b _).mono ?_;rintro a w1 ⟨rfl,rfl⟩;go_wp2_with fail;go_ret2;exact ⟨rfl,rfl⟩
def DataAt (w:World) (b:Nat) (A:Option Addr) (n c:Nat) (D:List UInt8):Prop:=
 D.length=n/\n<=c/\c<=maxLen/\((A=none/\n=0/\c=0)∨∃g a,A=some ⟨g,0,none⟩/\b<=g/\Bk w g 5 a/\n<=a.size/\a.toList.take n=D.map bv)
def DataAt.rd {w e A n c D} (f:DataAt w e A n c D):Rd w w.heap.size 1 A n (D.map bv):=by
 obtain ⟨b,l,m,⟨rfl,rfl,rfl⟩|⟨g,j,rfl,o,d,q,i⟩⟩:=f;obtain rfl:D= []:=zBk b;exact Rd.nil _ _ _ _
 · refine ⟨by simp [b],fun _=>⟨g,0,rfl,d.lt,fun r s a=>?_⟩⟩;rw [zBi,d.cell];rw [<-i,zBs] at a;split at a;simpa using a
   · cases a
def DataAt.of_own {w b A n c D} (d:w.ownsRow b 5 1 (.slice A n c) n (D.map bv)):DataAt w b A n c D:=by
 have f:D.length=n:=by simpa using d.1
 rcases d.2 with ⟨a,e⟩|⟨g,q,i,a,e,j,l,m,r,o⟩;cases a;exact ⟨f,zAs _,zAp _,.inl ⟨rfl,rfl,rfl⟩⟩;cases a;exact ⟨f,l,m,.inr ⟨g,i,rfl,e,j,by omega,by simpa using o⟩⟩
def DataAt.keep {w w' b A n c D} (j:DataAt w b A n c D) (k:∀g a,b<=g->Bk w g 5 a->Bk w' g 5 a):DataAt w' b A n c D:=by
 obtain ⟨d,e,f,l |⟨g,a,rfl,i,m,o,q⟩⟩:=j;exact ⟨d,e,f,.inl l⟩;exact ⟨d,e,f,.inr ⟨g,a,rfl,i,k g a i m,o,q⟩⟩
def DataAt.below {w w' B A n c D} (b:DataAt w B A n c D) (k:Below w.heap.size w w'):DataAt w' B A n c D:=b.keep fun g d _ a=>a.below k a.lt
def DataAt.mono {w B B' A n c D} (f:DataAt w B A n c D) (k:B'<=B):DataAt w B' A n c D:=by
 obtain ⟨a,b,d,i |⟨g,e,rfl,o,j,l,m⟩⟩:=f;exact ⟨a,b,d,.inl i⟩;exact ⟨a,b,d,.inr ⟨g,e,rfl,by omega,j,l,m⟩⟩
def aKL {w g a m1 c1 m2 c2 d l b f} (o) (m:Bk w g 5 b) (y:a < b.size) (u:w.cell? ⟨d,l,none⟩=some f) (q:f.oneCell'=true) (s:Nat.min m2 m1=1):
 ∃w' i,(Builtin.copy_ #[22,22] o #[.slice (some ⟨g,a,none⟩) m1 c1,.slice (some ⟨d,l,none⟩) m2 c2]).run prog w=.ok (.int .i64 1) w'/\Bk w' g 5 i/\i.size=b.size/\i.toList.take (a+1)=b.toList.take a++ [f]/\Keep (fun d=>d=g) w w':=by
 have t:=run_copy_row (P:=prog) w 22 22 o 5 g a m1 c1 ⟨d,l,none⟩ m2 c2 b 5 [f] underlying22 kR m s.symm (fun j x e=>by
  rcases j with _ | j;cases e;rw [jX,zBq];exact u
  · cases e) (by show a+1<=b.size;omega) (fun x v=>by rw [List.mem_singleton.1 v];exact q)
 refine ⟨_,_,t,setRow_heap _ _ _ _ _ _ m,?_,?_,⟨rfl,rfl,rfl,by simp,fun j _ e=>setRow_other _ _ _ _ e⟩⟩;simp;omega;simp only [zCo,List.cons_append,List.nil_append,List.singleton_append];have r:(b.toList.take a).length=a:=(by simp;omega);rw [List.take_append,r,zAg oM,show a+1 - a=1 by omega];rfl
def aJZ (g k b:Nat) (e:UInt8):Value->World->Prop:=fun d w=>d=.int .i64 1/\∃a,Bk w g 5 a/\k<=a.size/\a.toList.take b=List.replicate b (bv e)
def aIl (g k i j):Stb (aJZ g k i j):=fun _ _ _ ⟨d,b,a,e⟩ f=>⟨d,b,a.below f a.lt,e⟩
def sX (w:World) (k:Nat) (d:UInt8) (b:Ending) (w':World):Prop:=∃g a,b=.returned (.slice (some ⟨g,0,none⟩) k k)/\w.heap.size<=g/\Bk w' g 5 a/\k<=a.size/\a.toList.take k=(List.replicate k d).map bv/\Below w.heap.size w w'
def aJv (A a c b w):Calls prog 47 #[.slice A a c,o0] w (sX w 0 b):=by
 unfold sX;go_enter func47,ntmps47;go_wp2_with fail;go_ret;exact ⟨_,#[],rfl,zAs _,ke _ _ _,zAp _,rfl,bR.alloc nL _⟩
def aKx (t a3 c:Nat) (j) (k:Nat) (af:0 < k) (ae:k<=3) (w) (U:w.cell? ⟨t,a3,none⟩=some (bv j)):Calls prog 47 #[.slice (some ⟨t,a3,none⟩) 1 c,(k:Int)] w (sX w k j):=by
 have aj:=aKE k ae;obtain ⟨i,Z,aB,_⟩:=Lib.run_makeNoZero (P:=prog) w #[3] 22 5 underlying22 k oM;have ay:(callFunc 89 #[(k:Int)]).run prog w=.ok (.value (.slice (some w.heap.size) k i.size)) ((w.alloc (.cells i 5)).drewN 2):=by rw [run_callFunc_extern func89 kR kR kR (e:=Extern.BytealgMakeNoZero.makeNoZero #[3] #[22]) kR,Z];rfl
 clear Z;have ah:t < w.heap.size:=World.block_lt_of_cell? w _ U;have M:Bk ((w.alloc (.cells i 5)).drewN 2) w.heap.size 5 i:=(ke w _ _).drewN 2;have y:Below w.heap.size w ((w.alloc (.cells i 5)).drewN 2):=by have d:=(kh w.heap.size w).alloc nL (.cells i 5);exact ⟨d.os,d.tape,d.output,d.size,d.block⟩
 have V:=(y.cell ah).trans U;obtain ⟨a4,a5,ak,N,aF,a1,X⟩:=aKL (m1:=k) (c1:=k) (m2:=1) (c2:=c) 3 M (show 0 < i.size by omega) V rfl (by show min 1 k=1;omega);have R:Below w.heap.size w a4:=y.trans (X.to_below (B:=w.heap.size) (by simp) (fun l v d=>by omega));obtain ⟨G,J,I⟩:=hqq3 N a1 R;have aG:(0:Int)<=(k:Int):=oM;have aH:(k:Int)<=(i.size:Int):=oM;have aI:¬((k:Int) > 8192):=oM;clear M y V N a1 X R;unfold sX;go_enter func47,ntmps47;go_wp2_with fail;refine (aj _).mono ?_;rintro a6 w1 ⟨rfl,rfl⟩;go_wp2_with (at_builtin;refine Lib.wpList_copy_run _ rfl _ _ 22 22 rfl _ _ rfl rfl ak ?_);go_loopw [10,11] (fun C ar wr=>∃(a:Nat) (f:Array Value),1<=a/\a<=k/\C=.int .i64 (a:Int)/\Bk wr w.heap.size 5 f/\k<=f.size/\f.toList.take a=List.replicate a (bv j)/\Below w.heap.size w wr) (fun C _ _=>k -(intOf C).toNat)
 case atStart=>exact ⟨1,a5,zAs _,af,rfl,G.out,by omega,by rw [J.out];rfl,I.out⟩
 case round=>
  obtain ⟨a,f,az,aA,rfl,O,am,a2,S⟩:=hrel;obtain ⟨H,r,q⟩:=hqq3 O a2 S;clear O a2 S G J I;by_cases aD:a < k
  · go_wp2_with fail;have ai:min (a:Int) (k:Int)=(a:Int):=oM
    have an:∀W,Bk W w.heap.size 5 f->W.cell? w.heap.size=some (bv j):=fun W v=>by
        have K:(f.toList.take a)[0]?=some (bv j):=by
         rw [r.out];cases a with
         | zero=>omega
         | succ a=>rfl
        rw [zBs,zBx oM] at K;rw [v.cell];simpa using K
    rw [ai];refine wp_region_any kR ?_;refine aY [67,68,69,70,71,72,73,74,75,10] (fun l=>l=w.heap.size) 7 [7] (fun w1=>Bk w1 w.heap.size 5 f) (aJZ w.heap.size k (a+1) j) [is (a:Int),is (.slice (some w.heap.size) k k),is (a:Int),is (.slice (some ⟨w.heap.size,a,none⟩) (k - a) (k - a)),is (.slice (some w.heap.size) k k),is (a:Int),is (.slice (some w.heap.size) a k),cJ,is (.int .i64 ((a+1:Nat):Int)),is (.int .i64 ((a+1:Nat):Int))] _ _ rfl kR kR (H.out) (fun w1 a4 d _ ad=>kg d ad d.lt) (aIl _ _ _ _) tA0 ?_ ?_
    · refine aK ?_;refine pH3 10 (.int .i64 (a:Int)) ?_;refine pH3 9 (.slice (some w.heap.size) k k) ?_;refine pH3 10 (.int .i64 (a:Int)) ?_;refine sC3 (fun _ _ _ _ _ _ _ b _ _ _ m=>?_) ?_
      · have av:_=_:=b 1 68 kR rfl;have aw:_=_:=b 2 69 kR rfl;go_simp;exact m _ _ (aE bR) (by show _=_;rw [zBw oM])
      refine pH3 9 (.slice (some w.heap.size) k k) ?_;refine pH3 11 (.int .i64 (a:Int)) ?_;refine pW3 4 71 5 72 ?_;refine sC3 (fun _ E _ aa _ _ _ b _ _ ab m=>?_) ?_
      · have Y:=aa rfl;have a8:_=_:=b 3 70 kR rfl;have a9:_=_:=b 6 73 kR rfl;subst ab;obtain ⟨aL,s,al,x,a0,z,ag⟩:=aKL (m1:=k - a) (c1:=k - a) (m2:=a) (c2:=k) 3 Y (show a < f.size by omega) (an _ Y) rfl (by show min a (k - a)=1;omega);refine Lib.wp_copy_run E (.tmp 70) (.tmp 73) _ _ rfl _ _ a8 a9 al ?_;refine m _ _ (aT ag) ⟨rfl,s,x,by omega,?_⟩;rw [z,r.out,List.replicate_succ']
      refine sC3 (fun o E _ _ _ _ _ b _ _ _ m=>?_) ?_
      · have au:_=_:=b 0 67 kR rfl;have ao:(aJZ w.heap.size k (a+1) j) (o (.tmp 74)) E:=b 7 74 kR rfl;have ax:o (.tmp 74)=.int .i64 1:=ao.1;go_simp;exact m _ _ (aE bR) (cO (by rw [wI0] <;> omega))
      refine pV3 8 75 ?_;exact aC
    · intro o F u b L;replace u:Keep (fun l=>l=w.heap.size) wr F:=kD u;have a7:o (.tmp 10)=.int .i64 ((a+1:Nat):Int):=b 9 10 rfl;obtain ⟨aJ,ap⟩:∃aq,(aJZ w.heap.size k (a+1) j) aq F:=L 7 dC;simp only [zqq];rw [a7];clear b L;obtain ⟨_,s,x,a0,z⟩:=ap;have ac:Below w.heap.size w F:=q.out.trans (u.to_below q.out.size (fun l v d=>by omega));go_wp2;go_roundw
      case rel=>exact ⟨a+1,s,by omega,by omega,rfl,x,a0,z,ac⟩
      case measure=>simp [intOf];omega
  · obtain rfl:a=k:=oM;go_wp2_with fail;go_ret;exact ⟨_,f,rfl,zAs _,H.out,am,by rw [r.out,List.map_replicate],q.out⟩
def gU (a d c:Nat) (e) (k:Nat) (i:k<=3) (w) (f:w.cell? ⟨a,d,none⟩=some (bv e)):Calls prog 47 #[.slice (some ⟨a,d,none⟩) 1 c,(k:Int)] w (sX w k e):=by
 rcases zBa k with b | b;subst b;exact aJv _ _ _ _ _;exact aKx a d c e k b i w f
end
section
structure Sp where
 kind:Int
 p:Int
 k:Int
 D:List UInt8
def spK (k:UInt8):Int:=((k.toNat % 8+1:Nat):Int)
def spP (k a:UInt8):Int:=if 248<=k.toNat then (a.toNat:Int) - 128 else ((a.toNat % 32:Nat):Int)
def spN (k a:UInt8):Int:=if 248<=k.toNat then (a.toNat:Int) - 128 else ((a.toNat % 8:Nat):Int)
def nN (k:UInt8):Bool:=decide (k.toNat % 8=0)||decide (k.toNat % 8=2)||decide (k.toNat % 8=5)||decide (k.toNat % 8=6)
def dE (a:UInt8):UInt8:=97+a % 3
def pQ (k a b:UInt8):List UInt8:=List.replicate (b.toNat % 4) (dE a)++if 128<=k.toNat then [98] else []
def spD (k a b:UInt8):List UInt8:=if nN k=true then pQ k a b else []
def aEd (k a b:UInt8):Sp:=⟨spK k,spP k a,spN k b,spD k a b⟩
def aGi (b:List UInt8) (a:Nat):Sp:=aEd (b.getD (3*a) 0) (b.getD (3*a+1) 0) (b.getD (3*a+2) 0)
def fL (a):(dE a).toNat=97+a.toNat % 3:=by
 unfold dE;rw [UInt8.toNat_add,UInt8.toNat_mod];have:(3:UInt8).toNat=3:=rfl;have b:(97:UInt8).toNat=97:=rfl;rw [this,b];have:=Nat.mod_lt a.toNat (by decide:0 < 3);omega
def aIU (k b a):(pQ k b a).length<=4:=by
 unfold pQ;have:=Nat.mod_lt a.toNat (by decide:0 < 4);split <;> simp <;> omega
def aJP (k a b):(spD k a b).length<=4:=by
 unfold spD;have:=aIU k a b;split;omega
 · simp
def aLI (k a):-128<=spP k a/\spP k a<=127/\(k.toNat < 248->0<=spP k a/\spP k a<=31):=by
 unfold spP;have:=a.toNat_lt;have:=Nat.mod_lt a.toNat (by decide:0 < 32);split <;> omega
def aLJ (k a):-128<=spN k a/\spN k a<=127/\(k.toNat < 248->0<=spN k a/\spN k a<=7):=by
 unfold spN;have:=a.toNat_lt;have:=Nat.mod_lt a.toNat (by decide:0 < 8);split <;> omega
end
section
open Go.RowKit
def fJ (k a b:UInt8) (A:Option Addr) (n c:Nat):Array Value:=#[.int .i64 (spK k),.int .i64 (spP k a),.int .i64 (spN k b),.slice A n c]
def dV (w:World) (k a b:UInt8) (d:Ending) (w':World):Prop:=
 ∃A n c,d=.returned (.agg (fJ k a b A n c))/\DataAt w' w.heap.size A n c (spD k a b)/\Below w.heap.size w w'
def dA {w g n e i D x c} (o) (F:x=bv c) (r:Bk w g 5 i) (I:n<=i.size) (E:i.toList.take n=D.map bv) (f:D.length=n) (J:n<=1000) (b1:Bk w e 5 #[x]):
 ∃j l w',(Builtin.append_ #[22,22] o #[.slice (some g) n n,.slice (some e) 1 1]).run prog w=.ok (.slice j (n+1) l) w'/\DataAt w' w.heap.size j (n+1) l (D++ [c])/\Below w.heap.size w w':=by
 subst F;obtain ⟨H,u,G,m,q⟩:=info_parts kO;have v:(D.map bv).length=n:=by simpa using f
 have B:∀a d,(D.map bv)[a]?=some d->w.cell? ((⟨g,0,none⟩:Addr).add a)=some d:=fun a d b=>by
  rw [jX,zBi,r.cell];rw [<-E,zBs] at b;split at b;simpa using b
  · cases b
 have z:∀a d, [bv c][a]?=some d->w.cell? ((⟨e,0,none⟩:Addr).add a)=some d:=fun a d b=>by
  rw [jX,zBi,b1.cell];rcases a with _ | a;exact b
  · cases b
 have C:=run_append_grow (P:=prog) w 22 o 5 H (.int .u8 0) underlying22 u G ⟨g,0,none⟩ n n (D.map bv) (by rw [v,m,zBl]) B ⟨e,0,none⟩ 1 1 [bv c] (by rw [m];rfl) z oM oM (growslice_fits oM (by rw [q];omega));have t:=grownCap_ge w (n+1) n 5;have s:grownCap w (n+1) n 5<=maxLen:=grownCap_le_maxLen w (n+1) n 5 (by unfold maxLen;omega);refine ⟨_,_,_,C,⟨by simp [f],t,s,.inr ⟨w.heap.size,_,rfl,zAs _,heap_alloc_new w.drew _,?_,?_⟩⟩,(kh w.heap.size w).drew.alloc nL _⟩
 · simp [f]
 have y:((D.map bv)++ [bv c]).length=n+1:=(by simp [f]);simp only [Array.toList_append,List.toList_toArray];rw [<-y,List.take_left,zAz];rfl
def eC {w w' d g k a b A n c} (l:d.getD 6 undef=.pointer (some g)) (e:Bk w' g 44 (fJ k a b A n c)) (i:DataAt w' w.heap.size A n c (spD k a b)) (j:Below w.heap.size w w'):
 bodyPost prog f18 (dV w k a b) .ret ⟨d, []⟩ w':=
 bodyPost_ret (results_cell_row (P:=prog) (fn:=f18) (p:=6) (ty:=44) rfl d w' g 44 (fJ k a b A n c) (0,0) _ l e underlying44 rfl kR) rfl ⟨A,n,c,rfl,i,j⟩
def aE7 (k d e) (j:nN k=false) (w):Calls prog 18 #[bv k,bv d,bv e] w (dV w k d e):=by
 obtain ⟨a,b⟩:=eqx k.toNat;obtain ⟨l,f⟩:=eqx d.toNat;obtain ⟨m,i⟩:=eqx e.toNat;have y:a < 256:=by rw [<-b];exact k.toNat_lt
 have z:l < 256:=by rw [<-f];exact d.toNat_lt
 have B:m < 256:=by rw [<-i];exact e.toNat_lt
 have v:spD k d e= []:=by unfold spD;rw [j];rfl
 have t:spK k=(a:Int)% 8+1:=by unfold spK;rw [b];omega
 have x:¬(a % 8=0∨a % 8=2∨a % 8=5∨a % 8=6):=by unfold nN at j;rw [b] at j;simp at j;omega
 have C:((a:Int)% 8+1==1)=false:=by rw [zCb];omega
 have E:((a:Int)% 8+1==3)=false:=by rw [zCb];omega
 have F:((a:Int)% 8+1==6)=false:=by rw [zCb];omega
 have G:((a:Int)% 8+1==7)=false:=by rw [zCb];omega
 by_cases s:248<=a
 · have q:spP k d=(l:Int) - 128:=(by unfold spP;rw [b,f,zBx s]);have o:spN k e=(m:Int) - 128:=(by unfold spN;rw [b,i,zBx s]);have r:∀A n c,#[.int .i64 ((a:Int)% 8+1),.int .i64 ((l:Int) - 128),.int .i64 ((m:Int) - 128),.slice A n c]=fJ k d e A n c:=fun A n c=>by unfold fJ;rw [t,q,o]
   unfold bv;rw [b,f,i];have u:=lhd r;clear b f i j t x q o r;go_enter func18,ntmps18;go_wp2_with fail;rw [u.out];refine eC rfl ((ke w _ _).alloc _) ?_ ((bR.alloc nL _).alloc (by simp) _);rw [v];exact ⟨rfl,zAs _,zAp _,.inl ⟨rfl,rfl,rfl⟩⟩
 · have q:spP k d=(l:Int)% 32:=(by unfold spP;rw [b,f,zBw s];omega);have o:spN k e=(m:Int)% 8:=(by unfold spN;rw [b,i,zBw s];omega);have r:∀A n c,#[.int .i64 ((a:Int)% 8+1),.int .i64 ((l:Int)% 32),.int .i64 ((m:Int)% 8),.slice A n c]=fJ k d e A n c:=fun A n c=>by unfold fJ;rw [t,q,o]
   unfold bv;rw [b,f,i];have u:=lhd r;clear b f i j t x q o r;go_enter func18,ntmps18;go_wp2_with fail;rw [u.out];refine eC rfl ((ke w _ _).alloc _) ?_ ((bR.alloc nL _).alloc (by simp) _);rw [v];exact ⟨rfl,zAs _,zAp _,.inl ⟨rfl,rfl,rfl⟩⟩
def aG8 (k b m) (a5:nN k=true) (w a) (a9:m.toNat % 4=a) (ah:k.toNat % 8=0) (L:248<=k.toNat):Calls prog 18 #[bv k,bv b,bv m] w (dV w k b m):=by
 obtain ⟨o,j⟩:=eqx k.toNat;obtain ⟨d,t⟩:=eqx b.toNat;obtain ⟨i,u⟩:=eqx m.toNat;have ao:o < 256:=by rw [<-j];exact k.toNat_lt
 have ap:d < 256:=by rw [<-t];exact b.toNat_lt
 have aq:i < 256:=by rw [<-u];exact m.toNat_lt
 have X:spD k b m=List.replicate a (dE b)++if 128<=o then [98] else []:=by unfold spD;rw [a5,zBx rfl];unfold pQ;rw [a9,j]
 have a8:spK k=(o:Int)% 8+1:=by unfold spK;rw [j];omega
 have ab:Value.int .u8 (97+(d:Int)% 3)=bv (dE b):=by unfold bv;rw [fL,t];exact dS oM
 rw [j] at ah L;rw [u] at a9;have aB:(i:Int)% 4=(a:Int):=oM;have ak:(o:Int)% 8+1=1:=oM;have az:(128:Int)<=(o:Int):=oM;have aA:(248:Int)<=(o:Int):=oM;have Z:spP k b=(d:Int) - 128:=by unfold spP;rw [j,t,zBx L]
 have Y:spN k m=(i:Int) - 128:=by unfold spN;rw [j,u,zBx L]
 have aa:∀A n c,#[.int .i64 1,.int .i64 ((d:Int) - 128),.int .i64 ((i:Int) - 128),.slice A n c]=fJ k b m A n c:=fun A n c=>by unfold fJ;rw [a8,Z,Y,ak]
 unfold bv;rw [j,t,u];obtain ⟨af,ac,ag⟩:=hqq3 aa X ab;clear j t u a5 a8 Z Y aa X ab;go_enter func18,ntmps18;go_wp2_with fail;refine (gU _ _ _ (dE b) a oM _ (by rw [<-ag.out];simpa using (ke ((w.alloc (.cells #[o0,o0,o0,()] 44)).alloc (.cells #[(1:Int),.int .i64 ((d:Int) - 128),.int .i64 ((i:Int) - 128),()] 44)) 5 #[.int .u8 (97+(d:Int)% 3)]).cell 0)).mono ?_;rintro V w1 ⟨g,U,rfl,K,a2,am,an,B⟩;simp only [sZ0] at K;have r:=((ke (w.alloc (.cells #[o0,o0,o0,()] 44)) 44 #[(1:Int),.int .i64 ((d:Int) - 128),.int .i64 ((i:Int) - 128),()]).alloc (.cells #[.int .u8 (97+(d:Int)% 3)] 5)).below B (by simp);have a0:=(((ke w 44 #[o0,o0,o0,()]).alloc (.cells #[(1:Int),.int .i64 ((d:Int) - 128),.int .i64 ((i:Int) - 128),()] 44)).alloc (.cells #[.int .u8 (97+(d:Int)% 3)] 5)).below B (by simp;omega);have a3:Below w.heap.size w w1:=(((kh w.heap.size w).alloc nL _).alloc (by simp) _).alloc (by simp;omega) _ |>.trans (B.mono (by simp;omega));simp only [sZ0] at r;have aj:g≠w.heap.size+1:=oM;have G:=a2.far (p:=⟨w.heap.size+1,3,none⟩) aj (.slice (some ⟨g,0,none⟩) a a);have y:=r.set 3 (.slice (some ⟨g,0,none⟩) a a);have F:=a0.far (p:=⟨w.heap.size+1,3,none⟩) (by simp) (.slice (some ⟨g,0,none⟩) a a);have H:=a3.setCell (p:=⟨w.heap.size+1,3,none⟩) (by simp) (.slice (some ⟨g,0,none⟩) a a);have ar:=r.cell 3;have ay:=r.frozen 3;generalize aD:w1.setCell ⟨w.heap.size+1,3,none⟩ (.slice (some ⟨g,0,none⟩) a a)=w2 at G y F H;obtain ⟨N,E,R,O⟩:=hqq4 G y F H;have aF:=y.cell 3;clear a2 B r a0 a3 G y F H;have aC:=E.out.lt;obtain ⟨f,l,M,al,a6,z⟩:=dA (c:=98) (x:=.int .u8 98) 22 rfl (N.out.alloc (.cells #[.int .u8 98] 5)) am an (zCn ..) oM (ke w2 _ _);have a7:=a6.mono (B':=w.heap.size) (by simp;omega);have s:=(E.out.alloc (.cells #[.int .u8 98] 5)).below z (by simp;omega);have a1:=(R.out.alloc (.cells #[.int .u8 98] 5)).below z (by simp;omega);have a4:Below w.heap.size w M:=(O.out.alloc oM _).trans (z.mono (by simp;omega));have aG:=s.cell 3;have aH:=s.frozen 3;have q:=s.set 3 (.slice f (a+1) l);have e:=a1.far (p:=⟨w.heap.size+1,3,none⟩) (by simp) (.slice f (a+1) l);have I:=a4.setCell (p:=⟨w.heap.size+1,3,none⟩) (by simp) (.slice f (a+1) l);have J:DataAt (M.setCell ⟨w.heap.size+1,3,none⟩ (.slice f (a+1) l)) w.heap.size f (a+1) l (List.replicate a (dE b)++ [98]):=a7.keep fun g U K v=>v.far (fun V=>v.ne s dC V) _;generalize aE:M.setCell ⟨w.heap.size+1,3,none⟩ (.slice f (a+1) l)=w4 at q e I J;have au:=q.cell 0;have av:=q.cell 1;have aw:=q.cell 2;have ax:=q.cell 3;have aM:=e.cell 0;have aN:=e.cell 1;have aO:=e.cell 2;have aP:=e.cell 3;have aI:=e.frozen 0;have aJ:=e.frozen 1;have aK:=e.frozen 2;have aL:=e.frozen 3;obtain ⟨S,ad,ae⟩:=hqq3 e I J;clear a6 a7 s a1 a4 q e I J z N E R O;go_wp2_with (at_builtin;refine Lib.wpList_append_run _ rfl (.tmp 48) (.tmp 49) _ _ rfl _ _ rfl rfl _ _ al ?_);have ai:=(((S.out.set 0 (.int .i64 1)).set 1 (.int .i64 ((d:Int) - 128))).set 2 (.int .i64 ((i:Int) - 128))).set 3 (.slice f (a+1) l);refine eC (g:=w.heap.size) (A:=f) (n:=(a+1)) (c:=l) rfl ?_ ?_ ?_;rw [<-af.out];exact ai;rw [ac.out,zBx oM];exact ae.out.keep fun g U K v=>by have C:=v.ne S.out dC;exact (((v.far (p:=w.heap.size) C _).far (p:=⟨w.heap.size,1,none⟩) C _).far (p:=⟨w.heap.size,2,none⟩) C _).far (p:=⟨w.heap.size,3,none⟩) C _
 exact (((ad.out.setCell nL _).setCell nL _).setCell nL _).setCell nL _
def aHc (k b m) (a4:nN k=true) (w a) (a8:m.toNat % 4=a) (ag:k.toNat % 8=0) (aj:128<=k.toNat/\k.toNat < 248):Calls prog 18 #[bv k,bv b,bv m] w (dV w k b m):=by
 obtain ⟨o,j⟩:=eqx k.toNat;obtain ⟨d,t⟩:=eqx b.toNat;obtain ⟨i,u⟩:=eqx m.toNat;have ao:o < 256:=by rw [<-j];exact k.toNat_lt
 have ap:d < 256:=by rw [<-t];exact b.toNat_lt
 have aq:i < 256:=by rw [<-u];exact m.toNat_lt
 have V:spD k b m=List.replicate a (dE b)++if 128<=o then [98] else []:=by unfold spD;rw [a4,zBx rfl];unfold pQ;rw [a8,j]
 have a7:spK k=(o:Int)% 8+1:=by unfold spK;rw [j];omega
 have aa:Value.int .u8 (97+(d:Int)% 3)=bv (dE b):=by unfold bv;rw [fL,t];exact dS oM
 rw [j] at ag aj;rw [u] at a8;have aB:(i:Int)% 4=(a:Int):=oM;have ak:(o:Int)% 8+1=1:=oM;have az:(128:Int)<=(o:Int):=oM;have aA:¬(248:Int)<=(o:Int):=oM;have Y:spP k b=(d:Int)% 32:=by unfold spP;rw [j,t,zBw oM];omega
 have X:spN k m=(i:Int)% 8:=by unfold spN;rw [j,u,zBw oM];omega
 have a9:∀A n c,#[.int .i64 1,.int .i64 ((d:Int)% 32),.int .i64 ((i:Int)% 8),.slice A n c]=fJ k b m A n c:=fun A n c=>by unfold fJ;rw [a7,Y,X,ak]
 unfold bv;rw [j,t,u];obtain ⟨ae,ab,af⟩:=hqq3 a9 V aa;clear j t u a4 a7 Y X a9 V aa;go_enter func18,ntmps18;go_wp2_with fail;refine (gU _ _ _ (dE b) a oM _ (by rw [<-af.out];simpa using (ke ((w.alloc (.cells #[o0,o0,o0,()] 44)).alloc (.cells #[(1:Int),.int .i64 ((d:Int)% 32),.int .i64 ((i:Int)% 8),()] 44)) 5 #[.int .u8 (97+(d:Int)% 3)]).cell 0)).mono ?_;rintro U w1 ⟨g,S,rfl,K,a1,am,an,B⟩;simp only [sZ0] at K;have r:=((ke (w.alloc (.cells #[o0,o0,o0,()] 44)) 44 #[(1:Int),.int .i64 ((d:Int)% 32),.int .i64 ((i:Int)% 8),()]).alloc (.cells #[.int .u8 (97+(d:Int)% 3)] 5)).below B (by simp);have Z:=(((ke w 44 #[o0,o0,o0,()]).alloc (.cells #[(1:Int),.int .i64 ((d:Int)% 32),.int .i64 ((i:Int)% 8),()] 44)).alloc (.cells #[.int .u8 (97+(d:Int)% 3)] 5)).below B (by simp;omega);have a2:Below w.heap.size w w1:=(((kh w.heap.size w).alloc nL _).alloc (by simp) _).alloc (by simp;omega) _ |>.trans (B.mono (by simp;omega));simp only [sZ0] at r;have ai:g≠w.heap.size+1:=oM;have G:=a1.far (p:=⟨w.heap.size+1,3,none⟩) ai (.slice (some ⟨g,0,none⟩) a a);have y:=r.set 3 (.slice (some ⟨g,0,none⟩) a a);have F:=Z.far (p:=⟨w.heap.size+1,3,none⟩) (by simp) (.slice (some ⟨g,0,none⟩) a a);have H:=a2.setCell (p:=⟨w.heap.size+1,3,none⟩) (by simp) (.slice (some ⟨g,0,none⟩) a a);have ar:=r.cell 3;have ay:=r.frozen 3;generalize aD:w1.setCell ⟨w.heap.size+1,3,none⟩ (.slice (some ⟨g,0,none⟩) a a)=w2 at G y F H;obtain ⟨M,E,O,N⟩:=hqq4 G y F H;have aF:=y.cell 3;clear a1 B r Z a2 G y F H;have aC:=E.out.lt;obtain ⟨f,l,L,al,a5,z⟩:=dA (c:=98) (x:=.int .u8 98) 22 rfl (M.out.alloc (.cells #[.int .u8 98] 5)) am an (zCn ..) oM (ke w2 _ _);have a6:=a5.mono (B':=w.heap.size) (by simp;omega);have s:=(E.out.alloc (.cells #[.int .u8 98] 5)).below z (by simp;omega);have a0:=(O.out.alloc (.cells #[.int .u8 98] 5)).below z (by simp;omega);have a3:Below w.heap.size w L:=(N.out.alloc oM _).trans (z.mono (by simp;omega));have aG:=s.cell 3;have aH:=s.frozen 3;have q:=s.set 3 (.slice f (a+1) l);have e:=a0.far (p:=⟨w.heap.size+1,3,none⟩) (by simp) (.slice f (a+1) l);have I:=a3.setCell (p:=⟨w.heap.size+1,3,none⟩) (by simp) (.slice f (a+1) l);have J:DataAt (L.setCell ⟨w.heap.size+1,3,none⟩ (.slice f (a+1) l)) w.heap.size f (a+1) l (List.replicate a (dE b)++ [98]):=a6.keep fun g S K v=>v.far (fun U=>v.ne s dC U) _;generalize aE:L.setCell ⟨w.heap.size+1,3,none⟩ (.slice f (a+1) l)=w4 at q e I J;have au:=q.cell 0;have av:=q.cell 1;have aw:=q.cell 2;have ax:=q.cell 3;have aM:=e.cell 0;have aN:=e.cell 1;have aO:=e.cell 2;have aP:=e.cell 3;have aI:=e.frozen 0;have aJ:=e.frozen 1;have aK:=e.frozen 2;have aL:=e.frozen 3;obtain ⟨R,ac,ad⟩:=hqq3 e I J;clear a5 a6 s a0 a3 q e I J z M E O N;go_wp2_with (at_builtin;refine Lib.wpList_append_run _ rfl (.tmp 48) (.tmp 49) _ _ rfl _ _ rfl rfl _ _ al ?_);have ah:=(((R.out.set 0 (.int .i64 1)).set 1 (.int .i64 ((d:Int)% 32))).set 2 (.int .i64 ((i:Int)% 8))).set 3 (.slice f (a+1) l);refine eC (g:=w.heap.size) (A:=f) (n:=(a+1)) (c:=l) rfl ?_ ?_ ?_;rw [<-ae.out];exact ah;rw [ab.out,zBx oM];exact ad.out.keep fun g S K v=>by have C:=v.ne R.out dC;exact (((v.far (p:=w.heap.size) C _).far (p:=⟨w.heap.size,1,none⟩) C _).far (p:=⟨w.heap.size,2,none⟩) C _).far (p:=⟨w.heap.size,3,none⟩) C _
 exact (((ac.out.setCell nL _).setCell nL _).setCell nL _).setCell nL _
def aHg (k d j) (L:nN k=true) (w a) (R:j.toNat % 4=a) (a2:k.toNat % 8=0) (a6:k.toNat < 128):Calls prog 18 #[bv k,bv d,bv j] w (dV w k d j):=by
 obtain ⟨l,i⟩:=eqx k.toNat;obtain ⟨b,q⟩:=eqx d.toNat;obtain ⟨f,r⟩:=eqx j.toNat;have aa:l < 256:=by rw [<-i];exact k.toNat_lt
 have ab:b < 256:=by rw [<-q];exact d.toNat_lt
 have ac:f < 256:=by rw [<-r];exact j.toNat_lt
 have C:spD k d j=List.replicate a (dE d)++if 128<=l then [98] else []:=by unfold spD;rw [L,zBx rfl];unfold pQ;rw [R,i]
 have O:spK k=(l:Int)% 8+1:=by unfold spK;rw [i];omega
 have U:Value.int .u8 (97+(b:Int)% 3)=bv (dE d):=by unfold bv;rw [fL,q];exact dS oM
 rw [i] at a2 a6;rw [r] at R;have am:(f:Int)% 4=(a:Int):=oM;have a7:(l:Int)% 8+1=1:=oM;have ak:¬(128:Int)<=(l:Int):=oM;have al:¬(248:Int)<=(l:Int):=oM;have F:spP k d=(b:Int)% 32:=by unfold spP;rw [i,q,zBw oM];omega
 have E:spN k j=(f:Int)% 8:=by unfold spN;rw [i,r,zBw oM];omega
 have S:∀A n c,#[.int .i64 1,.int .i64 ((b:Int)% 32),.int .i64 ((f:Int)% 8),.slice A n c]=fJ k d j A n c:=fun A n c=>by unfold fJ;rw [O,F,E,a7]
 unfold bv;rw [i,q,r];obtain ⟨a0,X,a1⟩:=hqq3 S C U;clear i q r L O F E S C U;go_enter func18,ntmps18;go_wp2_with fail;refine (gU _ _ _ (dE d) a oM _ (by rw [<-a1.out];simpa using (ke ((w.alloc (.cells #[o0,o0,o0,()] 44)).alloc (.cells #[(1:Int),.int .i64 ((b:Int)% 32),.int .i64 ((f:Int)% 8),()] 44)) 5 #[.int .u8 (97+(b:Int)% 3)]).cell 0)).mono ?_;rintro ae w1 ⟨g,B,rfl,N,I,a8,a9,s⟩;simp only [sZ0] at N;have m:=((ke (w.alloc (.cells #[o0,o0,o0,()] 44)) 44 #[(1:Int),.int .i64 ((b:Int)% 32),.int .i64 ((f:Int)% 8),()]).alloc (.cells #[.int .u8 (97+(b:Int)% 3)] 5)).below s (by simp);have G:=(((ke w 44 #[o0,o0,o0,()]).alloc (.cells #[(1:Int),.int .i64 ((b:Int)% 32),.int .i64 ((f:Int)% 8),()] 44)).alloc (.cells #[.int .u8 (97+(b:Int)% 3)] 5)).below s (by simp;omega);have J:Below w.heap.size w w1:=(((kh w.heap.size w).alloc nL _).alloc (by simp) _).alloc (by simp;omega) _ |>.trans (s.mono (by simp;omega));simp only [sZ0] at m;have a5:g≠w.heap.size+1:=oM;have x:=I.far (p:=⟨w.heap.size+1,3,none⟩) a5 (.slice (some ⟨g,0,none⟩) a a);have v:=m.set 3 (.slice (some ⟨g,0,none⟩) a a);have u:=G.far (p:=⟨w.heap.size+1,3,none⟩) (by simp) (.slice (some ⟨g,0,none⟩) a a);have y:=J.setCell (p:=⟨w.heap.size+1,3,none⟩) (by simp) (.slice (some ⟨g,0,none⟩) a a);have ad:=m.cell 3;have aj:=m.frozen 3;generalize an:w1.setCell ⟨w.heap.size+1,3,none⟩ (.slice (some ⟨g,0,none⟩) a a)=w2 at x v u y;obtain ⟨ao,rfl⟩:=eqx w2;obtain ⟨V,a3⟩:=eqx (some (⟨g,0,none⟩:Addr));have o:=v;have e:=u;have K:=y;have M:DataAt w2 w.heap.size (some ⟨g,0,none⟩) a a (List.replicate a (dE d)):=⟨zCn ..,zAs _,by unfold maxLen;omega,.inr ⟨g,B,rfl,by omega,x,a8,a9⟩⟩;have af:=o.cell 0;have ag:=o.cell 1;have ah:=o.cell 2;have ai:=o.cell 3;have av:=e.cell 0;have aw:=e.cell 1;have ax:=e.cell 2;have ay:=e.cell 3;have ap:=e.frozen 0;have aq:=e.frozen 1;have ar:=e.frozen 2;have au:=e.frozen 3;obtain ⟨z,Y,Z⟩:=hqq3 e K M;clear I s m G J x v u y o e K M a3 V;go_wp2_with fail;have a4:=(((z.out.set 0 (.int .i64 1)).set 1 (.int .i64 ((b:Int)% 32))).set 2 (.int .i64 ((f:Int)% 8))).set 3 (.slice (some ⟨g,0,none⟩) a a);refine eC (g:=w.heap.size) (A:=(some ⟨g,0,none⟩)) (n:=a) (c:=a) rfl ?_ ?_ ?_;rw [<-a0.out];exact a4;rw [X.out,zBw oM,List.append_nil];exact Z.out.keep fun g B N H=>by have t:=H.ne z.out dC;exact (((H.far (p:=w.heap.size) t _).far (p:=⟨w.heap.size,1,none⟩) t _).far (p:=⟨w.heap.size,2,none⟩) t _).far (p:=⟨w.heap.size,3,none⟩) t _
 exact (((Y.out.setCell nL _).setCell nL _).setCell nL _).setCell nL _
def aG7 (k b m) (a5:nN k=true) (w a) (a9:m.toNat % 4=a) (ah:k.toNat % 8=2) (L:248<=k.toNat):Calls prog 18 #[bv k,bv b,bv m] w (dV w k b m):=by
 obtain ⟨o,j⟩:=eqx k.toNat;obtain ⟨d,t⟩:=eqx b.toNat;obtain ⟨i,u⟩:=eqx m.toNat;have ao:o < 256:=by rw [<-j];exact k.toNat_lt
 have ap:d < 256:=by rw [<-t];exact b.toNat_lt
 have aq:i < 256:=by rw [<-u];exact m.toNat_lt
 have X:spD k b m=List.replicate a (dE b)++if 128<=o then [98] else []:=by unfold spD;rw [a5,zBx rfl];unfold pQ;rw [a9,j]
 have a8:spK k=(o:Int)% 8+1:=by unfold spK;rw [j];omega
 have ab:Value.int .u8 (97+(d:Int)% 3)=bv (dE b):=by unfold bv;rw [fL,t];exact dS oM
 rw [j] at ah L;rw [u] at a9;have aB:(i:Int)% 4=(a:Int):=oM;have ak:(o:Int)% 8+1=3:=oM;have az:(128:Int)<=(o:Int):=oM;have aA:(248:Int)<=(o:Int):=oM;have Z:spP k b=(d:Int) - 128:=by unfold spP;rw [j,t,zBx L]
 have Y:spN k m=(i:Int) - 128:=by unfold spN;rw [j,u,zBx L]
 have aa:∀A n c,#[.int .i64 3,.int .i64 ((d:Int) - 128),.int .i64 ((i:Int) - 128),.slice A n c]=fJ k b m A n c:=fun A n c=>by unfold fJ;rw [a8,Z,Y,ak]
 unfold bv;rw [j,t,u];obtain ⟨af,ac,ag⟩:=hqq3 aa X ab;clear j t u a5 a8 Z Y aa X ab;go_enter func18,ntmps18;go_wp2_with fail;refine (gU _ _ _ (dE b) a oM _ (by rw [<-ag.out];simpa using (ke ((w.alloc (.cells #[o0,o0,o0,()] 44)).alloc (.cells #[(3:Int),.int .i64 ((d:Int) - 128),.int .i64 ((i:Int) - 128),()] 44)) 5 #[.int .u8 (97+(d:Int)% 3)]).cell 0)).mono ?_;rintro V w1 ⟨g,U,rfl,K,a2,am,an,B⟩;simp only [sZ0] at K;have r:=((ke (w.alloc (.cells #[o0,o0,o0,()] 44)) 44 #[(3:Int),.int .i64 ((d:Int) - 128),.int .i64 ((i:Int) - 128),()]).alloc (.cells #[.int .u8 (97+(d:Int)% 3)] 5)).below B (by simp);have a0:=(((ke w 44 #[o0,o0,o0,()]).alloc (.cells #[(3:Int),.int .i64 ((d:Int) - 128),.int .i64 ((i:Int) - 128),()] 44)).alloc (.cells #[.int .u8 (97+(d:Int)% 3)] 5)).below B (by simp;omega);have a3:Below w.heap.size w w1:=(((kh w.heap.size w).alloc nL _).alloc (by simp) _).alloc (by simp;omega) _ |>.trans (B.mono (by simp;omega));simp only [sZ0] at r;have aj:g≠w.heap.size+1:=oM;have G:=a2.far (p:=⟨w.heap.size+1,3,none⟩) aj (.slice (some ⟨g,0,none⟩) a a);have y:=r.set 3 (.slice (some ⟨g,0,none⟩) a a);have F:=a0.far (p:=⟨w.heap.size+1,3,none⟩) (by simp) (.slice (some ⟨g,0,none⟩) a a);have H:=a3.setCell (p:=⟨w.heap.size+1,3,none⟩) (by simp) (.slice (some ⟨g,0,none⟩) a a);have ar:=r.cell 3;have ay:=r.frozen 3;generalize aD:w1.setCell ⟨w.heap.size+1,3,none⟩ (.slice (some ⟨g,0,none⟩) a a)=w2 at G y F H;obtain ⟨N,E,R,O⟩:=hqq4 G y F H;have aF:=y.cell 3;clear a2 B r a0 a3 G y F H;have aC:=E.out.lt;obtain ⟨f,l,M,al,a6,z⟩:=dA (c:=98) (x:=.int .u8 98) 22 rfl (N.out.alloc (.cells #[.int .u8 98] 5)) am an (zCn ..) oM (ke w2 _ _);have a7:=a6.mono (B':=w.heap.size) (by simp;omega);have s:=(E.out.alloc (.cells #[.int .u8 98] 5)).below z (by simp;omega);have a1:=(R.out.alloc (.cells #[.int .u8 98] 5)).below z (by simp;omega);have a4:Below w.heap.size w M:=(O.out.alloc oM _).trans (z.mono (by simp;omega));have aG:=s.cell 3;have aH:=s.frozen 3;have q:=s.set 3 (.slice f (a+1) l);have e:=a1.far (p:=⟨w.heap.size+1,3,none⟩) (by simp) (.slice f (a+1) l);have I:=a4.setCell (p:=⟨w.heap.size+1,3,none⟩) (by simp) (.slice f (a+1) l);have J:DataAt (M.setCell ⟨w.heap.size+1,3,none⟩ (.slice f (a+1) l)) w.heap.size f (a+1) l (List.replicate a (dE b)++ [98]):=a7.keep fun g U K v=>v.far (fun V=>v.ne s dC V) _;generalize aE:M.setCell ⟨w.heap.size+1,3,none⟩ (.slice f (a+1) l)=w4 at q e I J;have au:=q.cell 0;have av:=q.cell 1;have aw:=q.cell 2;have ax:=q.cell 3;have aM:=e.cell 0;have aN:=e.cell 1;have aO:=e.cell 2;have aP:=e.cell 3;have aI:=e.frozen 0;have aJ:=e.frozen 1;have aK:=e.frozen 2;have aL:=e.frozen 3;obtain ⟨S,ad,ae⟩:=hqq3 e I J;clear a6 a7 s a1 a4 q e I J z N E R O;go_wp2_with (at_builtin;refine Lib.wpList_append_run _ rfl (.tmp 48) (.tmp 49) _ _ rfl _ _ rfl rfl _ _ al ?_);have ai:=(((S.out.set 0 (.int .i64 3)).set 1 (.int .i64 ((d:Int) - 128))).set 2 (.int .i64 ((i:Int) - 128))).set 3 (.slice f (a+1) l);refine eC (g:=w.heap.size) (A:=f) (n:=(a+1)) (c:=l) rfl ?_ ?_ ?_;rw [<-af.out];exact ai;rw [ac.out,zBx oM];exact ae.out.keep fun g U K v=>by have C:=v.ne S.out dC;exact (((v.far (p:=w.heap.size) C _).far (p:=⟨w.heap.size,1,none⟩) C _).far (p:=⟨w.heap.size,2,none⟩) C _).far (p:=⟨w.heap.size,3,none⟩) C _
 exact (((ad.out.setCell nL _).setCell nL _).setCell nL _).setCell nL _
def aHb (k b m) (a4:nN k=true) (w a) (a8:m.toNat % 4=a) (ag:k.toNat % 8=2) (aj:128<=k.toNat/\k.toNat < 248):Calls prog 18 #[bv k,bv b,bv m] w (dV w k b m):=by
 obtain ⟨o,j⟩:=eqx k.toNat;obtain ⟨d,t⟩:=eqx b.toNat;obtain ⟨i,u⟩:=eqx m.toNat;have ao:o < 256:=by rw [<-j];exact k.toNat_lt
 have ap:d < 256:=by rw [<-t];exact b.toNat_lt
 have aq:i < 256:=by rw [<-u];exact m.toNat_lt
 have V:spD k b m=List.replicate a (dE b)++if 128<=o then [98] else []:=by unfold spD;rw [a4,zBx rfl];unfold pQ;rw [a8,j]
 have a7:spK k=(o:Int)% 8+1:=by unfold spK;rw [j];omega
 have aa:Value.int .u8 (97+(d:Int)% 3)=bv (dE b):=by unfold bv;rw [fL,t];exact dS oM
 rw [j] at ag aj;rw [u] at a8;have aB:(i:Int)% 4=(a:Int):=oM;have ak:(o:Int)% 8+1=3:=oM;have az:(128:Int)<=(o:Int):=oM;have aA:¬(248:Int)<=(o:Int):=oM;have Y:spP k b=(d:Int)% 32:=by unfold spP;rw [j,t,zBw oM];omega
 have X:spN k m=(i:Int)% 8:=by unfold spN;rw [j,u,zBw oM];omega
 have a9:∀A n c,#[.int .i64 3,.int .i64 ((d:Int)% 32),.int .i64 ((i:Int)% 8),.slice A n c]=fJ k b m A n c:=fun A n c=>by unfold fJ;rw [a7,Y,X,ak]
 unfold bv;rw [j,t,u];obtain ⟨ae,ab,af⟩:=hqq3 a9 V aa;clear j t u a4 a7 Y X a9 V aa;go_enter func18,ntmps18;go_wp2_with fail;refine (gU _ _ _ (dE b) a oM _ (by rw [<-af.out];simpa using (ke ((w.alloc (.cells #[o0,o0,o0,()] 44)).alloc (.cells #[(3:Int),.int .i64 ((d:Int)% 32),.int .i64 ((i:Int)% 8),()] 44)) 5 #[.int .u8 (97+(d:Int)% 3)]).cell 0)).mono ?_;rintro U w1 ⟨g,S,rfl,K,a1,am,an,B⟩;simp only [sZ0] at K;have r:=((ke (w.alloc (.cells #[o0,o0,o0,()] 44)) 44 #[(3:Int),.int .i64 ((d:Int)% 32),.int .i64 ((i:Int)% 8),()]).alloc (.cells #[.int .u8 (97+(d:Int)% 3)] 5)).below B (by simp);have Z:=(((ke w 44 #[o0,o0,o0,()]).alloc (.cells #[(3:Int),.int .i64 ((d:Int)% 32),.int .i64 ((i:Int)% 8),()] 44)).alloc (.cells #[.int .u8 (97+(d:Int)% 3)] 5)).below B (by simp;omega);have a2:Below w.heap.size w w1:=(((kh w.heap.size w).alloc nL _).alloc (by simp) _).alloc (by simp;omega) _ |>.trans (B.mono (by simp;omega));simp only [sZ0] at r;have ai:g≠w.heap.size+1:=oM;have G:=a1.far (p:=⟨w.heap.size+1,3,none⟩) ai (.slice (some ⟨g,0,none⟩) a a);have y:=r.set 3 (.slice (some ⟨g,0,none⟩) a a);have F:=Z.far (p:=⟨w.heap.size+1,3,none⟩) (by simp) (.slice (some ⟨g,0,none⟩) a a);have H:=a2.setCell (p:=⟨w.heap.size+1,3,none⟩) (by simp) (.slice (some ⟨g,0,none⟩) a a);have ar:=r.cell 3;have ay:=r.frozen 3;generalize aD:w1.setCell ⟨w.heap.size+1,3,none⟩ (.slice (some ⟨g,0,none⟩) a a)=w2 at G y F H;obtain ⟨M,E,O,N⟩:=hqq4 G y F H;have aF:=y.cell 3;clear a1 B r Z a2 G y F H;have aC:=E.out.lt;obtain ⟨f,l,L,al,a5,z⟩:=dA (c:=98) (x:=.int .u8 98) 22 rfl (M.out.alloc (.cells #[.int .u8 98] 5)) am an (zCn ..) oM (ke w2 _ _);have a6:=a5.mono (B':=w.heap.size) (by simp;omega);have s:=(E.out.alloc (.cells #[.int .u8 98] 5)).below z (by simp;omega);have a0:=(O.out.alloc (.cells #[.int .u8 98] 5)).below z (by simp;omega);have a3:Below w.heap.size w L:=(N.out.alloc oM _).trans (z.mono (by simp;omega));have aG:=s.cell 3;have aH:=s.frozen 3;have q:=s.set 3 (.slice f (a+1) l);have e:=a0.far (p:=⟨w.heap.size+1,3,none⟩) (by simp) (.slice f (a+1) l);have I:=a3.setCell (p:=⟨w.heap.size+1,3,none⟩) (by simp) (.slice f (a+1) l);have J:DataAt (L.setCell ⟨w.heap.size+1,3,none⟩ (.slice f (a+1) l)) w.heap.size f (a+1) l (List.replicate a (dE b)++ [98]):=a6.keep fun g S K v=>v.far (fun U=>v.ne s dC U) _;generalize aE:L.setCell ⟨w.heap.size+1,3,none⟩ (.slice f (a+1) l)=w4 at q e I J;have au:=q.cell 0;have av:=q.cell 1;have aw:=q.cell 2;have ax:=q.cell 3;have aM:=e.cell 0;have aN:=e.cell 1;have aO:=e.cell 2;have aP:=e.cell 3;have aI:=e.frozen 0;have aJ:=e.frozen 1;have aK:=e.frozen 2;have aL:=e.frozen 3;obtain ⟨R,ac,ad⟩:=hqq3 e I J;clear a5 a6 s a0 a3 q e I J z M E O N;go_wp2_with (at_builtin;refine Lib.wpList_append_run _ rfl (.tmp 48) (.tmp 49) _ _ rfl _ _ rfl rfl _ _ al ?_);have ah:=(((R.out.set 0 (.int .i64 3)).set 1 (.int .i64 ((d:Int)% 32))).set 2 (.int .i64 ((i:Int)% 8))).set 3 (.slice f (a+1) l);refine eC (g:=w.heap.size) (A:=f) (n:=(a+1)) (c:=l) rfl ?_ ?_ ?_;rw [<-ae.out];exact ah;rw [ab.out,zBx oM];exact ad.out.keep fun g S K v=>by have C:=v.ne R.out dC;exact (((v.far (p:=w.heap.size) C _).far (p:=⟨w.heap.size,1,none⟩) C _).far (p:=⟨w.heap.size,2,none⟩) C _).far (p:=⟨w.heap.size,3,none⟩) C _
 exact (((ac.out.setCell nL _).setCell nL _).setCell nL _).setCell nL _
def aHf (k d j) (L:nN k=true) (w a) (R:j.toNat % 4=a) (a2:k.toNat % 8=2) (a6:k.toNat < 128):Calls prog 18 #[bv k,bv d,bv j] w (dV w k d j):=by
 obtain ⟨l,i⟩:=eqx k.toNat;obtain ⟨b,q⟩:=eqx d.toNat;obtain ⟨f,r⟩:=eqx j.toNat;have aa:l < 256:=by rw [<-i];exact k.toNat_lt
 have ab:b < 256:=by rw [<-q];exact d.toNat_lt
 have ac:f < 256:=by rw [<-r];exact j.toNat_lt
 have C:spD k d j=List.replicate a (dE d)++if 128<=l then [98] else []:=by unfold spD;rw [L,zBx rfl];unfold pQ;rw [R,i]
 have O:spK k=(l:Int)% 8+1:=by unfold spK;rw [i];omega
 have U:Value.int .u8 (97+(b:Int)% 3)=bv (dE d):=by unfold bv;rw [fL,q];exact dS oM
 rw [i] at a2 a6;rw [r] at R;have am:(f:Int)% 4=(a:Int):=oM;have a7:(l:Int)% 8+1=3:=oM;have ak:¬(128:Int)<=(l:Int):=oM;have al:¬(248:Int)<=(l:Int):=oM;have F:spP k d=(b:Int)% 32:=by unfold spP;rw [i,q,zBw oM];omega
 have E:spN k j=(f:Int)% 8:=by unfold spN;rw [i,r,zBw oM];omega
 have S:∀A n c,#[.int .i64 3,.int .i64 ((b:Int)% 32),.int .i64 ((f:Int)% 8),.slice A n c]=fJ k d j A n c:=fun A n c=>by unfold fJ;rw [O,F,E,a7]
 unfold bv;rw [i,q,r];obtain ⟨a0,X,a1⟩:=hqq3 S C U;clear i q r L O F E S C U;go_enter func18,ntmps18;go_wp2_with fail;refine (gU _ _ _ (dE d) a oM _ (by rw [<-a1.out];simpa using (ke ((w.alloc (.cells #[o0,o0,o0,()] 44)).alloc (.cells #[(3:Int),.int .i64 ((b:Int)% 32),.int .i64 ((f:Int)% 8),()] 44)) 5 #[.int .u8 (97+(b:Int)% 3)]).cell 0)).mono ?_;rintro ae w1 ⟨g,B,rfl,N,I,a8,a9,s⟩;simp only [sZ0] at N;have m:=((ke (w.alloc (.cells #[o0,o0,o0,()] 44)) 44 #[(3:Int),.int .i64 ((b:Int)% 32),.int .i64 ((f:Int)% 8),()]).alloc (.cells #[.int .u8 (97+(b:Int)% 3)] 5)).below s (by simp);have G:=(((ke w 44 #[o0,o0,o0,()]).alloc (.cells #[(3:Int),.int .i64 ((b:Int)% 32),.int .i64 ((f:Int)% 8),()] 44)).alloc (.cells #[.int .u8 (97+(b:Int)% 3)] 5)).below s (by simp;omega);have J:Below w.heap.size w w1:=(((kh w.heap.size w).alloc nL _).alloc (by simp) _).alloc (by simp;omega) _ |>.trans (s.mono (by simp;omega));simp only [sZ0] at m;have a5:g≠w.heap.size+1:=oM;have x:=I.far (p:=⟨w.heap.size+1,3,none⟩) a5 (.slice (some ⟨g,0,none⟩) a a);have v:=m.set 3 (.slice (some ⟨g,0,none⟩) a a);have u:=G.far (p:=⟨w.heap.size+1,3,none⟩) (by simp) (.slice (some ⟨g,0,none⟩) a a);have y:=J.setCell (p:=⟨w.heap.size+1,3,none⟩) (by simp) (.slice (some ⟨g,0,none⟩) a a);have ad:=m.cell 3;have aj:=m.frozen 3;generalize an:w1.setCell ⟨w.heap.size+1,3,none⟩ (.slice (some ⟨g,0,none⟩) a a)=w2 at x v u y;obtain ⟨ao,rfl⟩:=eqx w2;obtain ⟨V,a3⟩:=eqx (some (⟨g,0,none⟩:Addr));have o:=v;have e:=u;have K:=y;have M:DataAt w2 w.heap.size (some ⟨g,0,none⟩) a a (List.replicate a (dE d)):=⟨zCn ..,zAs _,by unfold maxLen;omega,.inr ⟨g,B,rfl,by omega,x,a8,a9⟩⟩;have af:=o.cell 0;have ag:=o.cell 1;have ah:=o.cell 2;have ai:=o.cell 3;have av:=e.cell 0;have aw:=e.cell 1;have ax:=e.cell 2;have ay:=e.cell 3;have ap:=e.frozen 0;have aq:=e.frozen 1;have ar:=e.frozen 2;have au:=e.frozen 3;obtain ⟨z,Y,Z⟩:=hqq3 e K M;clear I s m G J x v u y o e K M a3 V;go_wp2_with fail;have a4:=(((z.out.set 0 (.int .i64 3)).set 1 (.int .i64 ((b:Int)% 32))).set 2 (.int .i64 ((f:Int)% 8))).set 3 (.slice (some ⟨g,0,none⟩) a a);refine eC (g:=w.heap.size) (A:=(some ⟨g,0,none⟩)) (n:=a) (c:=a) rfl ?_ ?_ ?_;rw [<-a0.out];exact a4;rw [X.out,zBw oM,List.append_nil];exact Z.out.keep fun g B N H=>by have t:=H.ne z.out dC;exact (((H.far (p:=w.heap.size) t _).far (p:=⟨w.heap.size,1,none⟩) t _).far (p:=⟨w.heap.size,2,none⟩) t _).far (p:=⟨w.heap.size,3,none⟩) t _
 exact (((Y.out.setCell nL _).setCell nL _).setCell nL _).setCell nL _
def aG6 (k b m) (a5:nN k=true) (w a) (a9:m.toNat % 4=a) (ah:k.toNat % 8=5) (L:248<=k.toNat):Calls prog 18 #[bv k,bv b,bv m] w (dV w k b m):=by
 obtain ⟨o,j⟩:=eqx k.toNat;obtain ⟨d,t⟩:=eqx b.toNat;obtain ⟨i,u⟩:=eqx m.toNat;have ao:o < 256:=by rw [<-j];exact k.toNat_lt
 have ap:d < 256:=by rw [<-t];exact b.toNat_lt
 have aq:i < 256:=by rw [<-u];exact m.toNat_lt
 have X:spD k b m=List.replicate a (dE b)++if 128<=o then [98] else []:=by unfold spD;rw [a5,zBx rfl];unfold pQ;rw [a9,j]
 have a8:spK k=(o:Int)% 8+1:=by unfold spK;rw [j];omega
 have ab:Value.int .u8 (97+(d:Int)% 3)=bv (dE b):=by unfold bv;rw [fL,t];exact dS oM
 rw [j] at ah L;rw [u] at a9;have aB:(i:Int)% 4=(a:Int):=oM;have ak:(o:Int)% 8+1=6:=oM;have az:(128:Int)<=(o:Int):=oM;have aA:(248:Int)<=(o:Int):=oM;have Z:spP k b=(d:Int) - 128:=by unfold spP;rw [j,t,zBx L]
 have Y:spN k m=(i:Int) - 128:=by unfold spN;rw [j,u,zBx L]
 have aa:∀A n c,#[.int .i64 6,.int .i64 ((d:Int) - 128),.int .i64 ((i:Int) - 128),.slice A n c]=fJ k b m A n c:=fun A n c=>by unfold fJ;rw [a8,Z,Y,ak]
 unfold bv;rw [j,t,u];obtain ⟨af,ac,ag⟩:=hqq3 aa X ab;clear j t u a5 a8 Z Y aa X ab;go_enter func18,ntmps18;go_wp2_with fail;refine (gU _ _ _ (dE b) a oM _ (by rw [<-ag.out];simpa using (ke ((w.alloc (.cells #[o0,o0,o0,()] 44)).alloc (.cells #[(6:Int),.int .i64 ((d:Int) - 128),.int .i64 ((i:Int) - 128),()] 44)) 5 #[.int .u8 (97+(d:Int)% 3)]).cell 0)).mono ?_;rintro V w1 ⟨g,U,rfl,K,a2,am,an,B⟩;simp only [sZ0] at K;have r:=((ke (w.alloc (.cells #[o0,o0,o0,()] 44)) 44 #[(6:Int),.int .i64 ((d:Int) - 128),.int .i64 ((i:Int) - 128),()]).alloc (.cells #[.int .u8 (97+(d:Int)% 3)] 5)).below B (by simp);have a0:=(((ke w 44 #[o0,o0,o0,()]).alloc (.cells #[(6:Int),.int .i64 ((d:Int) - 128),.int .i64 ((i:Int) - 128),()] 44)).alloc (.cells #[.int .u8 (97+(d:Int)% 3)] 5)).below B (by simp;omega);have a3:Below w.heap.size w w1:=(((kh w.heap.size w).alloc nL _).alloc (by simp) _).alloc (by simp;omega) _ |>.trans (B.mono (by simp;omega));simp only [sZ0] at r;have aj:g≠w.heap.size+1:=oM;have G:=a2.far (p:=⟨w.heap.size+1,3,none⟩) aj (.slice (some ⟨g,0,none⟩) a a);have y:=r.set 3 (.slice (some ⟨g,0,none⟩) a a);have F:=a0.far (p:=⟨w.heap.size+1,3,none⟩) (by simp) (.slice (some ⟨g,0,none⟩) a a);have H:=a3.setCell (p:=⟨w.heap.size+1,3,none⟩) (by simp) (.slice (some ⟨g,0,none⟩) a a);have ar:=r.cell 3;have ay:=r.frozen 3;generalize aD:w1.setCell ⟨w.heap.size+1,3,none⟩ (.slice (some ⟨g,0,none⟩) a a)=w2 at G y F H;obtain ⟨N,E,R,O⟩:=hqq4 G y F H;have aF:=y.cell 3;clear a2 B r a0 a3 G y F H;have aC:=E.out.lt;obtain ⟨f,l,M,al,a6,z⟩:=dA (c:=98) (x:=.int .u8 98) 22 rfl (N.out.alloc (.cells #[.int .u8 98] 5)) am an (zCn ..) oM (ke w2 _ _);have a7:=a6.mono (B':=w.heap.size) (by simp;omega);have s:=(E.out.alloc (.cells #[.int .u8 98] 5)).below z (by simp;omega);have a1:=(R.out.alloc (.cells #[.int .u8 98] 5)).below z (by simp;omega);have a4:Below w.heap.size w M:=(O.out.alloc oM _).trans (z.mono (by simp;omega));have aG:=s.cell 3;have aH:=s.frozen 3;have q:=s.set 3 (.slice f (a+1) l);have e:=a1.far (p:=⟨w.heap.size+1,3,none⟩) (by simp) (.slice f (a+1) l);have I:=a4.setCell (p:=⟨w.heap.size+1,3,none⟩) (by simp) (.slice f (a+1) l);have J:DataAt (M.setCell ⟨w.heap.size+1,3,none⟩ (.slice f (a+1) l)) w.heap.size f (a+1) l (List.replicate a (dE b)++ [98]):=a7.keep fun g U K v=>v.far (fun V=>v.ne s dC V) _;generalize aE:M.setCell ⟨w.heap.size+1,3,none⟩ (.slice f (a+1) l)=w4 at q e I J;have au:=q.cell 0;have av:=q.cell 1;have aw:=q.cell 2;have ax:=q.cell 3;have aM:=e.cell 0;have aN:=e.cell 1;have aO:=e.cell 2;have aP:=e.cell 3;have aI:=e.frozen 0;have aJ:=e.frozen 1;have aK:=e.frozen 2;have aL:=e.frozen 3;obtain ⟨S,ad,ae⟩:=hqq3 e I J;clear a6 a7 s a1 a4 q e I J z N E R O;go_wp2_with (at_builtin;refine Lib.wpList_append_run _ rfl (.tmp 48) (.tmp 49) _ _ rfl _ _ rfl rfl _ _ al ?_);have ai:=(((S.out.set 0 (.int .i64 6)).set 1 (.int .i64 ((d:Int) - 128))).set 2 (.int .i64 ((i:Int) - 128))).set 3 (.slice f (a+1) l);refine eC (g:=w.heap.size) (A:=f) (n:=(a+1)) (c:=l) rfl ?_ ?_ ?_;rw [<-af.out];exact ai;rw [ac.out,zBx oM];exact ae.out.keep fun g U K v=>by have C:=v.ne S.out dC;exact (((v.far (p:=w.heap.size) C _).far (p:=⟨w.heap.size,1,none⟩) C _).far (p:=⟨w.heap.size,2,none⟩) C _).far (p:=⟨w.heap.size,3,none⟩) C _
 exact (((ad.out.setCell nL _).setCell nL _).setCell nL _).setCell nL _
def aHa (k b m) (a4:nN k=true) (w a) (a8:m.toNat % 4=a) (ag:k.toNat % 8=5) (aj:128<=k.toNat/\k.toNat < 248):Calls prog 18 #[bv k,bv b,bv m] w (dV w k b m):=by
 obtain ⟨o,j⟩:=eqx k.toNat;obtain ⟨d,t⟩:=eqx b.toNat;obtain ⟨i,u⟩:=eqx m.toNat;have ao:o < 256:=by rw [<-j];exact k.toNat_lt
 have ap:d < 256:=by rw [<-t];exact b.toNat_lt
 have aq:i < 256:=by rw [<-u];exact m.toNat_lt
 have V:spD k b m=List.replicate a (dE b)++if 128<=o then [98] else []:=by unfold spD;rw [a4,zBx rfl];unfold pQ;rw [a8,j]
 have a7:spK k=(o:Int)% 8+1:=by unfold spK;rw [j];omega
 have aa:Value.int .u8 (97+(d:Int)% 3)=bv (dE b):=by unfold bv;rw [fL,t];exact dS oM
 rw [j] at ag aj;rw [u] at a8;have aB:(i:Int)% 4=(a:Int):=oM;have ak:(o:Int)% 8+1=6:=oM;have az:(128:Int)<=(o:Int):=oM;have aA:¬(248:Int)<=(o:Int):=oM;have Y:spP k b=(d:Int)% 32:=by unfold spP;rw [j,t,zBw oM];omega
 have X:spN k m=(i:Int)% 8:=by unfold spN;rw [j,u,zBw oM];omega
 have a9:∀A n c,#[.int .i64 6,.int .i64 ((d:Int)% 32),.int .i64 ((i:Int)% 8),.slice A n c]=fJ k b m A n c:=fun A n c=>by unfold fJ;rw [a7,Y,X,ak]
 unfold bv;rw [j,t,u];obtain ⟨ae,ab,af⟩:=hqq3 a9 V aa;clear j t u a4 a7 Y X a9 V aa;go_enter func18,ntmps18;go_wp2_with fail;refine (gU _ _ _ (dE b) a oM _ (by rw [<-af.out];simpa using (ke ((w.alloc (.cells #[o0,o0,o0,()] 44)).alloc (.cells #[(6:Int),.int .i64 ((d:Int)% 32),.int .i64 ((i:Int)% 8),()] 44)) 5 #[.int .u8 (97+(d:Int)% 3)]).cell 0)).mono ?_;rintro U w1 ⟨g,S,rfl,K,a1,am,an,B⟩;simp only [sZ0] at K;have r:=((ke (w.alloc (.cells #[o0,o0,o0,()] 44)) 44 #[(6:Int),.int .i64 ((d:Int)% 32),.int .i64 ((i:Int)% 8),()]).alloc (.cells #[.int .u8 (97+(d:Int)% 3)] 5)).below B (by simp);have Z:=(((ke w 44 #[o0,o0,o0,()]).alloc (.cells #[(6:Int),.int .i64 ((d:Int)% 32),.int .i64 ((i:Int)% 8),()] 44)).alloc (.cells #[.int .u8 (97+(d:Int)% 3)] 5)).below B (by simp;omega);have a2:Below w.heap.size w w1:=(((kh w.heap.size w).alloc nL _).alloc (by simp) _).alloc (by simp;omega) _ |>.trans (B.mono (by simp;omega));simp only [sZ0] at r;have ai:g≠w.heap.size+1:=oM;have G:=a1.far (p:=⟨w.heap.size+1,3,none⟩) ai (.slice (some ⟨g,0,none⟩) a a);have y:=r.set 3 (.slice (some ⟨g,0,none⟩) a a);have F:=Z.far (p:=⟨w.heap.size+1,3,none⟩) (by simp) (.slice (some ⟨g,0,none⟩) a a);have H:=a2.setCell (p:=⟨w.heap.size+1,3,none⟩) (by simp) (.slice (some ⟨g,0,none⟩) a a);have ar:=r.cell 3;have ay:=r.frozen 3;generalize aD:w1.setCell ⟨w.heap.size+1,3,none⟩ (.slice (some ⟨g,0,none⟩) a a)=w2 at G y F H;obtain ⟨M,E,O,N⟩:=hqq4 G y F H;have aF:=y.cell 3;clear a1 B r Z a2 G y F H;have aC:=E.out.lt;obtain ⟨f,l,L,al,a5,z⟩:=dA (c:=98) (x:=.int .u8 98) 22 rfl (M.out.alloc (.cells #[.int .u8 98] 5)) am an (zCn ..) oM (ke w2 _ _);have a6:=a5.mono (B':=w.heap.size) (by simp;omega);have s:=(E.out.alloc (.cells #[.int .u8 98] 5)).below z (by simp;omega);have a0:=(O.out.alloc (.cells #[.int .u8 98] 5)).below z (by simp;omega);have a3:Below w.heap.size w L:=(N.out.alloc oM _).trans (z.mono (by simp;omega));have aG:=s.cell 3;have aH:=s.frozen 3;have q:=s.set 3 (.slice f (a+1) l);have e:=a0.far (p:=⟨w.heap.size+1,3,none⟩) (by simp) (.slice f (a+1) l);have I:=a3.setCell (p:=⟨w.heap.size+1,3,none⟩) (by simp) (.slice f (a+1) l);have J:DataAt (L.setCell ⟨w.heap.size+1,3,none⟩ (.slice f (a+1) l)) w.heap.size f (a+1) l (List.replicate a (dE b)++ [98]):=a6.keep fun g S K v=>v.far (fun U=>v.ne s dC U) _;generalize aE:L.setCell ⟨w.heap.size+1,3,none⟩ (.slice f (a+1) l)=w4 at q e I J;have au:=q.cell 0;have av:=q.cell 1;have aw:=q.cell 2;have ax:=q.cell 3;have aM:=e.cell 0;have aN:=e.cell 1;have aO:=e.cell 2;have aP:=e.cell 3;have aI:=e.frozen 0;have aJ:=e.frozen 1;have aK:=e.frozen 2;have aL:=e.frozen 3;obtain ⟨R,ac,ad⟩:=hqq3 e I J;clear a5 a6 s a0 a3 q e I J z M E O N;go_wp2_with (at_builtin;refine Lib.wpList_append_run _ rfl (.tmp 48) (.tmp 49) _ _ rfl _ _ rfl rfl _ _ al ?_);have ah:=(((R.out.set 0 (.int .i64 6)).set 1 (.int .i64 ((d:Int)% 32))).set 2 (.int .i64 ((i:Int)% 8))).set 3 (.slice f (a+1) l);refine eC (g:=w.heap.size) (A:=f) (n:=(a+1)) (c:=l) rfl ?_ ?_ ?_;rw [<-ae.out];exact ah;rw [ab.out,zBx oM];exact ad.out.keep fun g S K v=>by have C:=v.ne R.out dC;exact (((v.far (p:=w.heap.size) C _).far (p:=⟨w.heap.size,1,none⟩) C _).far (p:=⟨w.heap.size,2,none⟩) C _).far (p:=⟨w.heap.size,3,none⟩) C _
 exact (((ac.out.setCell nL _).setCell nL _).setCell nL _).setCell nL _
def aHe (k d j) (L:nN k=true) (w a) (R:j.toNat % 4=a) (a2:k.toNat % 8=5) (a6:k.toNat < 128):Calls prog 18 #[bv k,bv d,bv j] w (dV w k d j):=by
 obtain ⟨l,i⟩:=eqx k.toNat;obtain ⟨b,q⟩:=eqx d.toNat;obtain ⟨f,r⟩:=eqx j.toNat;have aa:l < 256:=by rw [<-i];exact k.toNat_lt
 have ab:b < 256:=by rw [<-q];exact d.toNat_lt
 have ac:f < 256:=by rw [<-r];exact j.toNat_lt
 have C:spD k d j=List.replicate a (dE d)++if 128<=l then [98] else []:=by unfold spD;rw [L,zBx rfl];unfold pQ;rw [R,i]
 have O:spK k=(l:Int)% 8+1:=by unfold spK;rw [i];omega
 have U:Value.int .u8 (97+(b:Int)% 3)=bv (dE d):=by unfold bv;rw [fL,q];exact dS oM
 rw [i] at a2 a6;rw [r] at R;have am:(f:Int)% 4=(a:Int):=oM;have a7:(l:Int)% 8+1=6:=oM;have ak:¬(128:Int)<=(l:Int):=oM;have al:¬(248:Int)<=(l:Int):=oM;have F:spP k d=(b:Int)% 32:=by unfold spP;rw [i,q,zBw oM];omega
 have E:spN k j=(f:Int)% 8:=by unfold spN;rw [i,r,zBw oM];omega
 have S:∀A n c,#[.int .i64 6,.int .i64 ((b:Int)% 32),.int .i64 ((f:Int)% 8),.slice A n c]=fJ k d j A n c:=fun A n c=>by unfold fJ;rw [O,F,E,a7]
 unfold bv;rw [i,q,r];obtain ⟨a0,X,a1⟩:=hqq3 S C U;clear i q r L O F E S C U;go_enter func18,ntmps18;go_wp2_with fail;refine (gU _ _ _ (dE d) a oM _ (by rw [<-a1.out];simpa using (ke ((w.alloc (.cells #[o0,o0,o0,()] 44)).alloc (.cells #[(6:Int),.int .i64 ((b:Int)% 32),.int .i64 ((f:Int)% 8),()] 44)) 5 #[.int .u8 (97+(b:Int)% 3)]).cell 0)).mono ?_;rintro ae w1 ⟨g,B,rfl,N,I,a8,a9,s⟩;simp only [sZ0] at N;have m:=((ke (w.alloc (.cells #[o0,o0,o0,()] 44)) 44 #[(6:Int),.int .i64 ((b:Int)% 32),.int .i64 ((f:Int)% 8),()]).alloc (.cells #[.int .u8 (97+(b:Int)% 3)] 5)).below s (by simp);have G:=(((ke w 44 #[o0,o0,o0,()]).alloc (.cells #[(6:Int),.int .i64 ((b:Int)% 32),.int .i64 ((f:Int)% 8),()] 44)).alloc (.cells #[.int .u8 (97+(b:Int)% 3)] 5)).below s (by simp;omega);have J:Below w.heap.size w w1:=(((kh w.heap.size w).alloc nL _).alloc (by simp) _).alloc (by simp;omega) _ |>.trans (s.mono (by simp;omega));simp only [sZ0] at m;have a5:g≠w.heap.size+1:=oM;have x:=I.far (p:=⟨w.heap.size+1,3,none⟩) a5 (.slice (some ⟨g,0,none⟩) a a);have v:=m.set 3 (.slice (some ⟨g,0,none⟩) a a);have u:=G.far (p:=⟨w.heap.size+1,3,none⟩) (by simp) (.slice (some ⟨g,0,none⟩) a a);have y:=J.setCell (p:=⟨w.heap.size+1,3,none⟩) (by simp) (.slice (some ⟨g,0,none⟩) a a);have ad:=m.cell 3;have aj:=m.frozen 3;generalize an:w1.setCell ⟨w.heap.size+1,3,none⟩ (.slice (some ⟨g,0,none⟩) a a)=w2 at x v u y;obtain ⟨ao,rfl⟩:=eqx w2;obtain ⟨V,a3⟩:=eqx (some (⟨g,0,none⟩:Addr));have o:=v;have e:=u;have K:=y;have M:DataAt w2 w.heap.size (some ⟨g,0,none⟩) a a (List.replicate a (dE d)):=⟨zCn ..,zAs _,by unfold maxLen;omega,.inr ⟨g,B,rfl,by omega,x,a8,a9⟩⟩;have af:=o.cell 0;have ag:=o.cell 1;have ah:=o.cell 2;have ai:=o.cell 3;have av:=e.cell 0;have aw:=e.cell 1;have ax:=e.cell 2;have ay:=e.cell 3;have ap:=e.frozen 0;have aq:=e.frozen 1;have ar:=e.frozen 2;have au:=e.frozen 3;obtain ⟨z,Y,Z⟩:=hqq3 e K M;clear I s m G J x v u y o e K M a3 V;go_wp2_with fail;have a4:=(((z.out.set 0 (.int .i64 6)).set 1 (.int .i64 ((b:Int)% 32))).set 2 (.int .i64 ((f:Int)% 8))).set 3 (.slice (some ⟨g,0,none⟩) a a);refine eC (g:=w.heap.size) (A:=(some ⟨g,0,none⟩)) (n:=a) (c:=a) rfl ?_ ?_ ?_;rw [<-a0.out];exact a4;rw [X.out,zBw oM,List.append_nil];exact Z.out.keep fun g B N H=>by have t:=H.ne z.out dC;exact (((H.far (p:=w.heap.size) t _).far (p:=⟨w.heap.size,1,none⟩) t _).far (p:=⟨w.heap.size,2,none⟩) t _).far (p:=⟨w.heap.size,3,none⟩) t _
 exact (((Y.out.setCell nL _).setCell nL _).setCell nL _).setCell nL _
def aG5 (k b m) (a5:nN k=true) (w a) (a9:m.toNat % 4=a) (ah:k.toNat % 8=6) (L:248<=k.toNat):Calls prog 18 #[bv k,bv b,bv m] w (dV w k b m):=by
 obtain ⟨o,j⟩:=eqx k.toNat;obtain ⟨d,t⟩:=eqx b.toNat;obtain ⟨i,u⟩:=eqx m.toNat;have ao:o < 256:=by rw [<-j];exact k.toNat_lt
 have ap:d < 256:=by rw [<-t];exact b.toNat_lt
 have aq:i < 256:=by rw [<-u];exact m.toNat_lt
 have X:spD k b m=List.replicate a (dE b)++if 128<=o then [98] else []:=by unfold spD;rw [a5,zBx rfl];unfold pQ;rw [a9,j]
 have a8:spK k=(o:Int)% 8+1:=by unfold spK;rw [j];omega
 have ab:Value.int .u8 (97+(d:Int)% 3)=bv (dE b):=by unfold bv;rw [fL,t];exact dS oM
 rw [j] at ah L;rw [u] at a9;have aB:(i:Int)% 4=(a:Int):=oM;have ak:(o:Int)% 8+1=7:=oM;have az:(128:Int)<=(o:Int):=oM;have aA:(248:Int)<=(o:Int):=oM;have Z:spP k b=(d:Int) - 128:=by unfold spP;rw [j,t,zBx L]
 have Y:spN k m=(i:Int) - 128:=by unfold spN;rw [j,u,zBx L]
 have aa:∀A n c,#[.int .i64 7,.int .i64 ((d:Int) - 128),.int .i64 ((i:Int) - 128),.slice A n c]=fJ k b m A n c:=fun A n c=>by unfold fJ;rw [a8,Z,Y,ak]
 unfold bv;rw [j,t,u];obtain ⟨af,ac,ag⟩:=hqq3 aa X ab;clear j t u a5 a8 Z Y aa X ab;go_enter func18,ntmps18;go_wp2_with fail;refine (gU _ _ _ (dE b) a oM _ (by rw [<-ag.out];simpa using (ke ((w.alloc (.cells #[o0,o0,o0,()] 44)).alloc (.cells #[(7:Int),.int .i64 ((d:Int) - 128),.int .i64 ((i:Int) - 128),()] 44)) 5 #[.int .u8 (97+(d:Int)% 3)]).cell 0)).mono ?_;rintro V w1 ⟨g,U,rfl,K,a2,am,an,B⟩;simp only [sZ0] at K;have r:=((ke (w.alloc (.cells #[o0,o0,o0,()] 44)) 44 #[(7:Int),.int .i64 ((d:Int) - 128),.int .i64 ((i:Int) - 128),()]).alloc (.cells #[.int .u8 (97+(d:Int)% 3)] 5)).below B (by simp);have a0:=(((ke w 44 #[o0,o0,o0,()]).alloc (.cells #[(7:Int),.int .i64 ((d:Int) - 128),.int .i64 ((i:Int) - 128),()] 44)).alloc (.cells #[.int .u8 (97+(d:Int)% 3)] 5)).below B (by simp;omega);have a3:Below w.heap.size w w1:=(((kh w.heap.size w).alloc nL _).alloc (by simp) _).alloc (by simp;omega) _ |>.trans (B.mono (by simp;omega));simp only [sZ0] at r;have aj:g≠w.heap.size+1:=oM;have G:=a2.far (p:=⟨w.heap.size+1,3,none⟩) aj (.slice (some ⟨g,0,none⟩) a a);have y:=r.set 3 (.slice (some ⟨g,0,none⟩) a a);have F:=a0.far (p:=⟨w.heap.size+1,3,none⟩) (by simp) (.slice (some ⟨g,0,none⟩) a a);have H:=a3.setCell (p:=⟨w.heap.size+1,3,none⟩) (by simp) (.slice (some ⟨g,0,none⟩) a a);have ar:=r.cell 3;have ay:=r.frozen 3;generalize aD:w1.setCell ⟨w.heap.size+1,3,none⟩ (.slice (some ⟨g,0,none⟩) a a)=w2 at G y F H;obtain ⟨N,E,R,O⟩:=hqq4 G y F H;have aF:=y.cell 3;clear a2 B r a0 a3 G y F H;have aC:=E.out.lt;obtain ⟨f,l,M,al,a6,z⟩:=dA (c:=98) (x:=.int .u8 98) 22 rfl (N.out.alloc (.cells #[.int .u8 98] 5)) am an (zCn ..) oM (ke w2 _ _);have a7:=a6.mono (B':=w.heap.size) (by simp;omega);have s:=(E.out.alloc (.cells #[.int .u8 98] 5)).below z (by simp;omega);have a1:=(R.out.alloc (.cells #[.int .u8 98] 5)).below z (by simp;omega);have a4:Below w.heap.size w M:=(O.out.alloc oM _).trans (z.mono (by simp;omega));have aG:=s.cell 3;have aH:=s.frozen 3;have q:=s.set 3 (.slice f (a+1) l);have e:=a1.far (p:=⟨w.heap.size+1,3,none⟩) (by simp) (.slice f (a+1) l);have I:=a4.setCell (p:=⟨w.heap.size+1,3,none⟩) (by simp) (.slice f (a+1) l);have J:DataAt (M.setCell ⟨w.heap.size+1,3,none⟩ (.slice f (a+1) l)) w.heap.size f (a+1) l (List.replicate a (dE b)++ [98]):=a7.keep fun g U K v=>v.far (fun V=>v.ne s dC V) _;generalize aE:M.setCell ⟨w.heap.size+1,3,none⟩ (.slice f (a+1) l)=w4 at q e I J;have au:=q.cell 0;have av:=q.cell 1;have aw:=q.cell 2;have ax:=q.cell 3;have aM:=e.cell 0;have aN:=e.cell 1;have aO:=e.cell 2;have aP:=e.cell 3;have aI:=e.frozen 0;have aJ:=e.frozen 1;have aK:=e.frozen 2;have aL:=e.frozen 3;obtain ⟨S,ad,ae⟩:=hqq3 e I J;clear a6 a7 s a1 a4 q e I J z N E R O;go_wp2_with (at_builtin;refine Lib.wpList_append_run _ rfl (.tmp 48) (.tmp 49) _ _ rfl _ _ rfl rfl _ _ al ?_);have ai:=(((S.out.set 0 (.int .i64 7)).set 1 (.int .i64 ((d:Int) - 128))).set 2 (.int .i64 ((i:Int) - 128))).set 3 (.slice f (a+1) l);refine eC (g:=w.heap.size) (A:=f) (n:=(a+1)) (c:=l) rfl ?_ ?_ ?_;rw [<-af.out];exact ai;rw [ac.out,zBx oM];exact ae.out.keep fun g U K v=>by have C:=v.ne S.out dC;exact (((v.far (p:=w.heap.size) C _).far (p:=⟨w.heap.size,1,none⟩) C _).far (p:=⟨w.heap.size,2,none⟩) C _).far (p:=⟨w.heap.size,3,none⟩) C _
 exact (((ad.out.setCell nL _).setCell nL _).setCell nL _).setCell nL _
def aG9 (k b m) (a4:nN k=true) (w a) (a8:m.toNat % 4=a) (ag:k.toNat % 8=6) (aj:128<=k.toNat/\k.toNat < 248):Calls prog 18 #[bv k,bv b,bv m] w (dV w k b m):=by
 obtain ⟨o,j⟩:=eqx k.toNat;obtain ⟨d,t⟩:=eqx b.toNat;obtain ⟨i,u⟩:=eqx m.toNat;have ao:o < 256:=by rw [<-j];exact k.toNat_lt
 have ap:d < 256:=by rw [<-t];exact b.toNat_lt
 have aq:i < 256:=by rw [<-u];exact m.toNat_lt
 have V:spD k b m=List.replicate a (dE b)++if 128<=o then [98] else []:=by unfold spD;rw [a4,zBx rfl];unfold pQ;rw [a8,j]
 have a7:spK k=(o:Int)% 8+1:=by unfold spK;rw [j];omega
 have aa:Value.int .u8 (97+(d:Int)% 3)=bv (dE b):=by unfold bv;rw [fL,t];exact dS oM
 rw [j] at ag aj;rw [u] at a8;have aB:(i:Int)% 4=(a:Int):=oM;have ak:(o:Int)% 8+1=7:=oM;have az:(128:Int)<=(o:Int):=oM;have aA:¬(248:Int)<=(o:Int):=oM;have Y:spP k b=(d:Int)% 32:=by unfold spP;rw [j,t,zBw oM];omega
 have X:spN k m=(i:Int)% 8:=by unfold spN;rw [j,u,zBw oM];omega
 have a9:∀A n c,#[.int .i64 7,.int .i64 ((d:Int)% 32),.int .i64 ((i:Int)% 8),.slice A n c]=fJ k b m A n c:=fun A n c=>by unfold fJ;rw [a7,Y,X,ak]
 unfold bv;rw [j,t,u];obtain ⟨ae,ab,af⟩:=hqq3 a9 V aa;clear j t u a4 a7 Y X a9 V aa;go_enter func18,ntmps18;go_wp2_with fail;refine (gU _ _ _ (dE b) a oM _ (by rw [<-af.out];simpa using (ke ((w.alloc (.cells #[o0,o0,o0,()] 44)).alloc (.cells #[(7:Int),.int .i64 ((d:Int)% 32),.int .i64 ((i:Int)% 8),()] 44)) 5 #[.int .u8 (97+(d:Int)% 3)]).cell 0)).mono ?_;rintro U w1 ⟨g,S,rfl,K,a1,am,an,B⟩;simp only [sZ0] at K;have r:=((ke (w.alloc (.cells #[o0,o0,o0,()] 44)) 44 #[(7:Int),.int .i64 ((d:Int)% 32),.int .i64 ((i:Int)% 8),()]).alloc (.cells #[.int .u8 (97+(d:Int)% 3)] 5)).below B (by simp);have Z:=(((ke w 44 #[o0,o0,o0,()]).alloc (.cells #[(7:Int),.int .i64 ((d:Int)% 32),.int .i64 ((i:Int)% 8),()] 44)).alloc (.cells #[.int .u8 (97+(d:Int)% 3)] 5)).below B (by simp;omega);have a2:Below w.heap.size w w1:=(((kh w.heap.size w).alloc nL _).alloc (by simp) _).alloc (by simp;omega) _ |>.trans (B.mono (by simp;omega));simp only [sZ0] at r;have ai:g≠w.heap.size+1:=oM;have G:=a1.far (p:=⟨w.heap.size+1,3,none⟩) ai (.slice (some ⟨g,0,none⟩) a a);have y:=r.set 3 (.slice (some ⟨g,0,none⟩) a a);have F:=Z.far (p:=⟨w.heap.size+1,3,none⟩) (by simp) (.slice (some ⟨g,0,none⟩) a a);have H:=a2.setCell (p:=⟨w.heap.size+1,3,none⟩) (by simp) (.slice (some ⟨g,0,none⟩) a a);have ar:=r.cell 3;have ay:=r.frozen 3;generalize aD:w1.setCell ⟨w.heap.size+1,3,none⟩ (.slice (some ⟨g,0,none⟩) a a)=w2 at G y F H;obtain ⟨M,E,O,N⟩:=hqq4 G y F H;have aF:=y.cell 3;clear a1 B r Z a2 G y F H;have aC:=E.out.lt;obtain ⟨f,l,L,al,a5,z⟩:=dA (c:=98) (x:=.int .u8 98) 22 rfl (M.out.alloc (.cells #[.int .u8 98] 5)) am an (zCn ..) oM (ke w2 _ _);have a6:=a5.mono (B':=w.heap.size) (by simp;omega);have s:=(E.out.alloc (.cells #[.int .u8 98] 5)).below z (by simp;omega);have a0:=(O.out.alloc (.cells #[.int .u8 98] 5)).below z (by simp;omega);have a3:Below w.heap.size w L:=(N.out.alloc oM _).trans (z.mono (by simp;omega));have aG:=s.cell 3;have aH:=s.frozen 3;have q:=s.set 3 (.slice f (a+1) l);have e:=a0.far (p:=⟨w.heap.size+1,3,none⟩) (by simp) (.slice f (a+1) l);have I:=a3.setCell (p:=⟨w.heap.size+1,3,none⟩) (by simp) (.slice f (a+1) l);have J:DataAt (L.setCell ⟨w.heap.size+1,3,none⟩ (.slice f (a+1) l)) w.heap.size f (a+1) l (List.replicate a (dE b)++ [98]):=a6.keep fun g S K v=>v.far (fun U=>v.ne s dC U) _;generalize aE:L.setCell ⟨w.heap.size+1,3,none⟩ (.slice f (a+1) l)=w4 at q e I J;have au:=q.cell 0;have av:=q.cell 1;have aw:=q.cell 2;have ax:=q.cell 3;have aM:=e.cell 0;have aN:=e.cell 1;have aO:=e.cell 2;have aP:=e.cell 3;have aI:=e.frozen 0;have aJ:=e.frozen 1;have aK:=e.frozen 2;have aL:=e.frozen 3;obtain ⟨R,ac,ad⟩:=hqq3 e I J;clear a5 a6 s a0 a3 q e I J z M E O N;go_wp2_with (at_builtin;refine Lib.wpList_append_run _ rfl (.tmp 48) (.tmp 49) _ _ rfl _ _ rfl rfl _ _ al ?_);have ah:=(((R.out.set 0 (.int .i64 7)).set 1 (.int .i64 ((d:Int)% 32))).set 2 (.int .i64 ((i:Int)% 8))).set 3 (.slice f (a+1) l);refine eC (g:=w.heap.size) (A:=f) (n:=(a+1)) (c:=l) rfl ?_ ?_ ?_;rw [<-ae.out];exact ah;rw [ab.out,zBx oM];exact ad.out.keep fun g S K v=>by have C:=v.ne R.out dC;exact (((v.far (p:=w.heap.size) C _).far (p:=⟨w.heap.size,1,none⟩) C _).far (p:=⟨w.heap.size,2,none⟩) C _).far (p:=⟨w.heap.size,3,none⟩) C _
 exact (((ac.out.setCell nL _).setCell nL _).setCell nL _).setCell nL _
def aHd (k d j) (L:nN k=true) (w a) (R:j.toNat % 4=a) (a2:k.toNat % 8=6) (a6:k.toNat < 128):Calls prog 18 #[bv k,bv d,bv j] w (dV w k d j):=by
 obtain ⟨l,i⟩:=eqx k.toNat;obtain ⟨b,q⟩:=eqx d.toNat;obtain ⟨f,r⟩:=eqx j.toNat;have aa:l < 256:=by rw [<-i];exact k.toNat_lt
 have ab:b < 256:=by rw [<-q];exact d.toNat_lt
 have ac:f < 256:=by rw [<-r];exact j.toNat_lt
 have C:spD k d j=List.replicate a (dE d)++if 128<=l then [98] else []:=by unfold spD;rw [L,zBx rfl];unfold pQ;rw [R,i]
 have O:spK k=(l:Int)% 8+1:=by unfold spK;rw [i];omega
 have U:Value.int .u8 (97+(b:Int)% 3)=bv (dE d):=by unfold bv;rw [fL,q];exact dS oM
 rw [i] at a2 a6;rw [r] at R;have am:(f:Int)% 4=(a:Int):=oM;have a7:(l:Int)% 8+1=7:=oM;have ak:¬(128:Int)<=(l:Int):=oM;have al:¬(248:Int)<=(l:Int):=oM;have F:spP k d=(b:Int)% 32:=by unfold spP;rw [i,q,zBw oM];omega
 have E:spN k j=(f:Int)% 8:=by unfold spN;rw [i,r,zBw oM];omega
 have S:∀A n c,#[.int .i64 7,.int .i64 ((b:Int)% 32),.int .i64 ((f:Int)% 8),.slice A n c]=fJ k d j A n c:=fun A n c=>by unfold fJ;rw [O,F,E,a7]
 unfold bv;rw [i,q,r];obtain ⟨a0,X,a1⟩:=hqq3 S C U;clear i q r L O F E S C U;go_enter func18,ntmps18;go_wp2_with fail;refine (gU _ _ _ (dE d) a oM _ (by rw [<-a1.out];simpa using (ke ((w.alloc (.cells #[o0,o0,o0,()] 44)).alloc (.cells #[(7:Int),.int .i64 ((b:Int)% 32),.int .i64 ((f:Int)% 8),()] 44)) 5 #[.int .u8 (97+(b:Int)% 3)]).cell 0)).mono ?_;rintro ae w1 ⟨g,B,rfl,N,I,a8,a9,s⟩;simp only [sZ0] at N;have m:=((ke (w.alloc (.cells #[o0,o0,o0,()] 44)) 44 #[(7:Int),.int .i64 ((b:Int)% 32),.int .i64 ((f:Int)% 8),()]).alloc (.cells #[.int .u8 (97+(b:Int)% 3)] 5)).below s (by simp);have G:=(((ke w 44 #[o0,o0,o0,()]).alloc (.cells #[(7:Int),.int .i64 ((b:Int)% 32),.int .i64 ((f:Int)% 8),()] 44)).alloc (.cells #[.int .u8 (97+(b:Int)% 3)] 5)).below s (by simp;omega);have J:Below w.heap.size w w1:=(((kh w.heap.size w).alloc nL _).alloc (by simp) _).alloc (by simp;omega) _ |>.trans (s.mono (by simp;omega));simp only [sZ0] at m;have a5:g≠w.heap.size+1:=oM;have x:=I.far (p:=⟨w.heap.size+1,3,none⟩) a5 (.slice (some ⟨g,0,none⟩) a a);have v:=m.set 3 (.slice (some ⟨g,0,none⟩) a a);have u:=G.far (p:=⟨w.heap.size+1,3,none⟩) (by simp) (.slice (some ⟨g,0,none⟩) a a);have y:=J.setCell (p:=⟨w.heap.size+1,3,none⟩) (by simp) (.slice (some ⟨g,0,none⟩) a a);have ad:=m.cell 3;have aj:=m.frozen 3;generalize an:w1.setCell ⟨w.heap.size+1,3,none⟩ (.slice (some ⟨g,0,none⟩) a a)=w2 at x v u y;obtain ⟨ao,rfl⟩:=eqx w2;obtain ⟨V,a3⟩:=eqx (some (⟨g,0,none⟩:Addr));have o:=v;have e:=u;have K:=y;have M:DataAt w2 w.heap.size (some ⟨g,0,none⟩) a a (List.replicate a (dE d)):=⟨zCn ..,zAs _,by unfold maxLen;omega,.inr ⟨g,B,rfl,by omega,x,a8,a9⟩⟩;have af:=o.cell 0;have ag:=o.cell 1;have ah:=o.cell 2;have ai:=o.cell 3;have av:=e.cell 0;have aw:=e.cell 1;have ax:=e.cell 2;have ay:=e.cell 3;have ap:=e.frozen 0;have aq:=e.frozen 1;have ar:=e.frozen 2;have au:=e.frozen 3;obtain ⟨z,Y,Z⟩:=hqq3 e K M;clear I s m G J x v u y o e K M a3 V;go_wp2_with fail;have a4:=(((z.out.set 0 (.int .i64 7)).set 1 (.int .i64 ((b:Int)% 32))).set 2 (.int .i64 ((f:Int)% 8))).set 3 (.slice (some ⟨g,0,none⟩) a a);refine eC (g:=w.heap.size) (A:=(some ⟨g,0,none⟩)) (n:=a) (c:=a) rfl ?_ ?_ ?_;rw [<-a0.out];exact a4;rw [X.out,zBw oM,List.append_nil];exact Z.out.keep fun g B N H=>by have t:=H.ne z.out dC;exact (((H.far (p:=w.heap.size) t _).far (p:=⟨w.heap.size,1,none⟩) t _).far (p:=⟨w.heap.size,2,none⟩) t _).far (p:=⟨w.heap.size,3,none⟩) t _
 exact (((Y.out.setCell nL _).setCell nL _).setCell nL _).setCell nL _
def aJr (k d e w):Calls prog 18 #[bv k,bv d,bv e] w (dV w k d e):=by
 cases f:nN k with
 | false=>exact aE7 k d e f w
 | true=>
   have a:=f;unfold nN at a;simp only [Bool.or_eq_true,zCa] at a;have b:248<=k.toNat∨(128<=k.toNat/\k.toNat < 248)∨k.toNat < 128:=oM;rcases a with ((a | a)| a)| a <;> rcases b with b | b | b;exact aG8 k d e f w _ rfl a b;exact aHc k d e f w _ rfl a b;exact aHg k d e f w _ rfl a b;exact aG7 k d e f w _ rfl a b;exact aHb k d e f w _ rfl a b;exact aHf k d e f w _ rfl a b;exact aG6 k d e f w _ rfl a b;exact aHa k d e f w _ rfl a b;exact aHe k d e f w _ rfl a b;exact aG5 k d e f w _ rfl a b;exact aG9 k d e f w _ rfl a b;exact aHd k d e f w _ rfl a b
end
end Go.Proofs.YtecdldbdednahaaGreatDoor
