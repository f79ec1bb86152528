/- Lemmas of the walk. Conditions: each its own. -/
import Derived.Test.YtnmapianpjamnaaGreatDoorPk1
import Derived.Test.YtnmapianpjamnaaGreatDoorPk2
import Derived.Test.YtnmapianpjamnaaGreatDoorProg
set_option linter.all false
set_option maxRecDepth 100000
set_option maxHeartbeats 4000000
namespace Go.Proofs.YtnmapianpjamnaaGreatDoor
open Tryz
section
def aBC {α:Type} (b:List α) (a:Nat):List α:=b.take a++b.drop (a+1)
def aBB {α:Type} (c:List α) {a:Nat} (f:a < c.length) (b:Nat):(aBC c a)[b]?=if b < a then c[b]? else c[b+1]?:=by
 unfold aBC;have e:(c.take a).length=a:=by rw [zAj];omega
 by_cases d:b < a
 · rw [zBw d,zAn oM,zBr,zBw d]
 rw [zBv d,zAo oM,e,zBs];congr 1;omega
def qH (a:List Bool) {c:Nat} (d:c < a.length) (b:Nat):(aBC a c).getD b false=if b < c then a.getD b false else a.getD (b+1) false:=by
 rw [zAb,aBB a d];split
 · rw [zAb]
 · rw [zAb]
def yU (d:List Bool) (c b:Nat):(d.take c).getD b false=(decide (b < c)&&d.getD b false):=by
 rw [zAb,zBr];by_cases a:b < c
 · rw [zBw a,zAb];simp [a]
 · rw [zBv a];simp [a]
def aAg (b:List Bool) (c a:Nat):(b.drop c).getD a false=b.getD (c+a) false:=by
 rw [zAb,zBs,zAb]
def aC6 (a b:Nat) (c:Bool):Nat:=(a % 2 ^ b|||(a / 2&&&(18446744073709551615 - a / 2 % 2 ^ b)))|||(if c then 9223372036854775808 else 0)
def aCf (b a:Nat) (c:b < 18446744073709551616):(18446744073709551615 - b).testBit a=(decide (a < 64)&& !b.testBit a):=by
 have:=Nat.testBit_two_pow_sub_succ (n:=64) (x:=b) oM a;rw [<-this];congr 1;omega
def aDr (c b a:Nat):(c % 2 ^ b).testBit a=(decide (a < b)&&c.testBit a):=Nat.testBit_mod_two_pow _ _ _
def aB6 (b a:Nat):(2 ^ b).testBit a=decide (b=a):=Nat.testBit_two_pow
def aCY (a c:Nat) (b:a < 18446744073709551616):a % 2 ^ c < 18446744073709551616:=Nat.lt_of_le_of_lt (Nat.mod_le _ _) b
def aC1 (b a:Nat) (d:b < 18446744073709551616) (c:64<=a):b.testBit a=false:=Nat.testBit_lt_two_pow (zAl d (zBo (n:=2) dC c))
def aCn (b d a:Nat) (c:Bool) (j:b < 18446744073709551616) (o:d < 64):(aC6 b d c).testBit a=if a < d then b.testBit a else if a < 63 then b.testBit (a+1) else (decide (a=63)&&c):=by
 unfold aC6;have m:b / 2 < 18446744073709551616:=Nat.lt_of_le_of_lt (Nat.div_le_self _ _) j;have n:∀g,(b / 2).testBit g=b.testBit (g+1):=fun g=>by rw [Nat.testBit_succ]
 rw [Nat.testBit_or,Nat.testBit_or,Nat.testBit_and,aCf _ _ (aCY _ d m),aDr,aDr,n];have l:(if c then 9223372036854775808 else 0:Nat).testBit a=(decide (a=63)&&c):=by
  cases c
  · simp
  rw [zBw rfl,show (9223372036854775808:Nat)=2 ^ 63 by decide,aB6,Bool.and_true];congr 1;exact propext eq_comm
 rw [l];by_cases e:a < d
 · have f:decide (a=63)=false:=zBx oM;rw [zBw e,zBy e,f];cases p:b.testBit a <;> cases q:b.testBit (a+1)<;> simp
 · rw [zBv e,zBx e];by_cases i:a < 63
   · have f:decide (a=63)=false:=zBx oM;have k:decide (a < 64)=true:=zBy oM;rw [zBw i,f,k];simp
   · rw [zBv i,aC1 b (a+1) j oM];simp
def aBz (b:List Bool) (a:Nat):(w0 b).testBit a=(decide (a < 64)&&b.getD a false):=by unfold w0;rw [fJ,yU]
def xC (b:List Bool) (a:Nat):(w1 b).testBit a=b.getD (64+a) false:=by unfold w1;rw [fJ,aAg]
def aCl (b:List Bool) (a:Nat) (c:b.length<=a):b.getD a false=false:=by
 rw [zAb,zBg c];rfl
def cut_hi (a:List Bool) (k:Nat) (f:k < a.length) (g:a.length<=128) (i:64<=k):w0 (aBC a k)=w0 a/\w1 (aBC a k)=aC6 (w1 a) (k - 64) false:=by
 constructor
 · refine Nat.eq_of_testBit_eq fun b=>?_;rw [aBz,aBz,qH a f];by_cases e:b < 64
   · rw [zBy e,zBw oM]
   · rw [zBx e,Bool.false_and,Bool.false_and]
 · refine Nat.eq_of_testBit_eq fun b=>?_;rw [aCn _ _ _ _ (nO a g) oM,xC,xC,xC,qH a f,Bool.and_false];by_cases c:b < k - 64
   · rw [zBw oM,zBw c]
   · rw [zBv oM,zBv c,show 64+b+1=64+(b+1) by omega];by_cases d:b < 63
     · rw [zBw d]
     rw [zBv d];exact aCl a _ oM
def dE (a:List (Int×Nat)):List UInt8:=a.flatMap bE
def lB (b:Int×Nat) (a:List (Int×Nat)):dE (b::a)=bE b++dE a:=by simp [dE]
def mQ (a:Int×Nat) (b:List (Int×Nat)):bH (a::b)=List.replicate a.2 a.1++bH b:=by simp [bH]
def yQ:Nat->List (Int×Nat)->Prop
 | _, []=>True
 | last,x::q=>(fB x.1/\x.1.toNat≠last/\1<=x.2/\x.2 < 18446744073709551616)/\yQ x.1.toNat q
def zN (d:List UInt8) (b:Nat) (a:Int×Nat) (c:List UInt8) (i:fB a.1) (j:a.2 < 18446744073709551616) (e:d.drop b=bE a++c):jL d b=some (a.1.toNat,a.2,b+(bE a).length):=by
 have f:=jF a.1.toNat (by have:=i.2;omega) (aH a.2++c) b;rw [bE,zCk] at e;rw [<-e] at f;have k:d.drop (b+(aH a.1.toNat).length)=aH a.2++c:=by rw [<-List.drop_drop,e,List.drop_left]
 have g:=jF a.2 j c (b+(aH a.1.toNat).length);rw [<-k] at g;rw [nZ _ _ _ _ _ _ f g,bE,zAi,Nat.add_assoc]
def aA0 (e:List UInt8) (k i:Nat) (l:List UInt8):∀(a:List (Int×Nat)) (c f:Nat) (d:List Int),e.drop c=dE a++l->yQ f a->d.length+(bH a).length<=k->
 ∃x,rgo e k (a.length+i) c f d=rgo e k i (c+(dE a).length) x (d++bH a):=by
 intro a
 induction a with
 | nil=>intro c f d _ _ _;exact ⟨f,by simp [dE,bH]⟩
 | cons b a v=>
   intro c f d j p s;obtain ⟨⟨g,y,z,m⟩,n⟩:=p;rw [lB,zCk] at j;have t:=zN e c b _ g m j;rw [mQ,zAi,zCj] at s;have o:(b::a).length+i=(a.length+i)+1:=(by simp;omega);rw [o,tL _ _ _ _ _ _ _ _ _ t,zBv (by have:=g.1;have:=g.2;omega),zBv oM];have u:((b.1.toNat:Nat):Int)=b.1:=(by have:=g.1;omega);rw [u];have q:e.drop (c+(bE b).length)=dE a++l:=(by rw [<-List.drop_drop,j,List.drop_left]);obtain ⟨w,r⟩:=v (c+(bE b).length) b.1.toNat (d++List.replicate b.2 b.1) q n (by rw [zAi,zCj];omega);refine ⟨w,?_⟩;rw [r,lB,mQ,zAi,zCk,Nat.add_assoc]
def aBK (c:List (Int×Nat)) (l:iS c) (e:∀a∈c,fB a.1/\a.2 < 18446744073709551616) (f:Nat) (o:∀a,c[0]?=some a->a.1.toNat≠f):yQ f c:=by
 induction c generalizing f with
 | nil=>trivial
 | cons a c s=>
   obtain ⟨g,_,i⟩:=l;refine ⟨⟨(e a (List.mem_cons_self ..)).1,o a rfl,g a (List.mem_cons_self ..),(e a (List.mem_cons_self ..)).2⟩,?_⟩;refine s ⟨fun d b=>g d (List.mem_cons_of_mem _ b),List.pairwise_of_forall (by intros;trivial),fun r j k m n=>i (r+1) j k (by simpa using m) (by simpa using n)⟩ (fun d b=>e d (List.mem_cons_of_mem _ b)) _ ?_;intro d b;have:=i 0 a d rfl (by simpa using b);have p:=(e a (List.mem_cons_self ..)).1;have q:=(e d (List.mem_cons_of_mem _ (zAd b))).1;have:=p.1;have:=q.1;omega
def xH (c:List Int) (d:∀a∈aG c,fB a.1) (e:c.length < 18446744073709551616):yQ 257 (aG c):=
 aBK _ (pY c) (fun a b=>⟨d a b,by have:=jQ c a b;omega⟩) 257 fun a b=>by have:=(d a (zAd b)).2;have:=(d a (zAd b)).1;omega
def qY (a:List Int) (b:a.length < 18446744073709551616):(aG a).length < 18446744073709551616:=by have:=gJ a;omega
def rH (a:List Int) (k:∀l∈aG a,fB l.1) (e:a.length < 18446744073709551616) (c:Int) (m:(a.length:Int)<=c) (b:List UInt8):
 gP (cL (aG a)++b) c=if b= [] then (a,0) else ([],4):=by
 have g:=jF (aG a).length (qY a e) (dE (aG a)++b) 0;have i:cL (aG a)++b=aH (aG a).length++(dE (aG a)++b):=by simp [cL,dE]
 rw [i,gP,g];simp only [zBi];have j:(aH (aG a).length++(dE (aG a)++b)).drop (aH (aG a).length).length=dE (aG a)++b:=List.drop_left;have d:=iI a;obtain ⟨n,f⟩:=aA0 _ c.toNat 0 b (aG a) _ 257 [] j (xH a k e) (by rw [d];simp;omega);rw [zBp] at f;rw [f,d,List.nil_append,rgo];by_cases ht:b= []
 · subst ht;rw [zBw (by simp),zBw rfl]
 · have:0 < b.length:=List.length_pos_iff.2 ht;rw [zBv (by simp;omega),zBv ht]
def cW (a:Nat) (b:a < 16384):(aH a).length<=2:=by
 have:=(wG 10 (a / 128) 1 oM).2 oM;simp [aH];omega
end
section
open Go.RowKit
def aB2 (a:World):(sizeOf 5).run prog a=.ok 1 a:=by kernel_rfl
def iL (b a:Nat) (f:b<=144115188075855871) (e:a < 256):bits .or .u64 ((b:Int)*128) (IntKind.u64.wrap (bits .and .u8 (a:Int) 127))=((b*128+a % 128:Nat):Int):=by
 have c:bits .and .u8 (a:Int) 127=((a % 128:Nat):Int):=by have:=u8_and_nat a 127 e oM;rw [nat_mask7] at this;exact this
 have d:IntKind.u64.wrap ((a % 128:Nat):Int)=((a % 128:Nat):Int):=by rw [IntKind.wrap_u64];omega
 rw [c,d,show ((b:Int)*128)=((b*128:Nat):Int) by push_cast;rfl,u64_or_nat _ _ oM oM,nat_join 7 (b*128) (a % 128) oM oM]
def dA {b:Nat} {c d:Int} {a:Nat×Int×Int} (e:a=(b,c,d)):Ending.returned (.tuple #[.int .u64 (b:Int),.int .i64 c,.int .i64 d])=Ending.returned (.tuple #[uv a.1,iv a.2.1,iv a.2.2]):=by subst e;rfl
def kS {c:Nat} {f b d e:Int} {a:Nat×Int×Int} (j:f=(c:Int)) (i:d=b) (g:a=(c,b,e)):Ending.returned (.tuple #[.int .u64 f,.int .i64 d,.int .i64 e])=Ending.returned (.tuple #[uv a.1,iv a.2.1,iv a.2.2]):=by subst g;subst j;subst i;rfl
def aCB (r:Option Addr) (g p:Nat) (d:List UInt8) (j:Int) (K:Nat) (B:World) (y:Rd B K 1 r g (d.map bv)) (V:g<=p) (R:p<=maxLen):
 Calls prog 165 #[.slice r g p,.int .i64 j] B fun O X=>O=.returned (.tuple #[uv (aW d j).1,iv (aW d j).2.1,iv (aW d j).2.2])/\B=X:=by
 unfold maxLen at R;have I:d.length=g:=by simpa using y.1
 obtain ⟨o,N⟩:=hqq2 I y;clear I y;by_cases x:j < 0
 · have m:aW d j=(0,j,2):=(by rw [aW,zBw (.inl x)]);have i:=lhd m;clear m;go_enter func165,ntmps165;go_wp2;go_ret3;exact ⟨dA i.out,rfl⟩
 by_cases F:(g:Int) < j
 · have m:aW d j=(0,j,2):=(by rw [aW,zBw (.inr (by rw [o.out];exact F))]);have i:=lhd m;clear m;go_enter func165,ntmps165;go_wp2;go_ret3;exact ⟨dA i.out,rfl⟩
 obtain ⟨a,rfl⟩:=Int.eq_ofNat_of_zero_le (Int.not_lt.1 x);have H:a<=g:=oM;have m:aW d (a:Int)=match bO (d.drop a) true 0 a with | some (A,W)=>(A,(W:Int),0)| none=>(0,(a:Int),4):=by rw [aW,zBv (by rw [o.out];omega)];rfl
 have i:=lhd m;have w:=N.out.cut (k:=a) (cap:=p) H V;have hcut:=nY (P:=prog) 22 5 1 underlying22 aB2 r g p a H;generalize cS r p a 1=A' at w hcut;have L:=lhd w;have a0:decide ((a:Int) < 0)=false:=by simp
 have a1:decide (g < a)=false:=by simp;omega
 clear m x w F;go_enter func165,ntmps165;go_wp2
 go_loop [7,23] (fun A z=>∃c f:Nat,c<=g - a/\z=.int .i64 c/\A=.int .u64 f/\bO (d.drop (a+c)) (c==0) f (a+c)=bO (d.drop a) true 0 a) (fun _ z=>g -(intOf z).toNat)
 case atStart=>exact ⟨0,0,zAp _,rfl,rfl,rfl⟩
 case round=>
  obtain ⟨c,f,a2,rfl,rfl,E⟩:=hrel;have l:=lhd E;clear E;by_cases U:c < g - a
  · obtain ⟨C,a3,a4,rfl,Z,J,Q⟩:=L.out.get U;have q:∃e,d[a+c]?=some e:=⟨d[a+c]'(by have:=o.out;omega),zAa (by have:=o.out;omega)⟩;obtain ⟨e,q⟩:=q;simp only [zBl,zBs,zAf,q,Option.map_some,Option.some.injEq] at J;subst J;unfold bv at Q;have D:d.drop (a+c)=e::d.drop (a+c+1):=(by have T:a+c < d.length:=(by have:=o.out;omega);rw [zAx T];have:d[a+c]=e:=(zAc.1 q).2;rw [this]);have t:e.toNat < 256:=e.toNat_lt;rw [D,fH] at l;clear q D;go_wp2
    · have Y:(e.toNat:Int)=128:=(by assumption);have n:c=0:=(by assumption);go_ret3;refine ⟨dA ?_,rfl⟩;rw [i.out,<-l.out,zBw (by simp;left;omega)]
    · have n:c=0:=(by assumption);have s:((e.toNat:Int)==128)=true∨(144115188075855871:Int) < (f:Int):=(by assumption);go_ret3;refine ⟨dA ?_,rfl⟩;rw [i.out,<-l.out,zBw (by simp at s⊢;omega)]
    · have n:c=0:=(by assumption);have s:¬(e.toNat:Int)=128:=(by assumption);have u:((e.toNat:Int)==128)=false/\(f:Int)<=144115188075855871:=(by assumption);have v:(e.toNat:Int) < 128:=(by assumption);subst n;go_ret3;refine ⟨kS (iL f _ oM t) ?_ (b:=((a+0+1:Nat):Int)) ?_,rfl⟩;push_cast;rfl
      · rw [i.out,<-l.out,zBv (by simp;omega),zBw oM]
    have n:c=0:=(by assumption);have s:¬(e.toNat:Int)=128:=(by assumption);have u:((e.toNat:Int)==128)=false/\(f:Int)<=144115188075855871:=(by assumption);have v:(128:Int)<=(e.toNat:Int):=(by assumption);subst n;refine ⟨⟨0+1,f*128+e.toNat % 128,by omega,rfl,eA (iL f _ oM t),?_⟩,by simp [intOf];omega⟩;rw [<-l.out,zBv (by simp;omega),zBv oM];rfl
    · have n:¬c=0:=(by assumption);have s:(144115188075855871:Int) < (f:Int):=(by assumption);go_ret3;refine ⟨dA ?_,rfl⟩;rw [i.out,<-l.out,zBw (by simp;omega)]
    · have n:¬c=0:=(by assumption);have u:(f:Int)<=144115188075855871:=(by assumption);have v:(e.toNat:Int) < 128:=(by assumption);go_ret3;refine ⟨kS (iL f _ oM t) ?_ (b:=((a+c+1:Nat):Int)) ?_,rfl⟩;push_cast;rfl
      · rw [i.out,<-l.out,zBv (by simp;omega),zBw oM]
    · have n:¬c=0:=(by assumption);have u:(f:Int)<=144115188075855871:=(by assumption);have v:(128:Int)<=(e.toNat:Int):=(by assumption);refine ⟨⟨c+1,f*128+e.toNat % 128,by omega,by go_num,eA (iL f _ oM t),?_⟩,by simp [intOf];omega⟩;rw [<-l.out,zBv (by simp;omega),zBv oM];rfl
  · have G:c=g - a:=oM;have M:=lhd G;clear G;go_wp2;go_ret3;refine ⟨dA ?_,rfl⟩;have S:d.drop (a+c)= []:=List.drop_eq_nil_of_le (by rw [o.out];have:=M.out;omega);rw [i.out,<-l.out,S,bO]
def cQ (d:Option Addr) (b a:Nat) (f:List UInt8) (e:Int) (g:Nat) (c:World) (k:Nat) (l j:Int) (n:aW f e=(k,l,j)) (r:Rd c g 1 d b (f.map bv)) (q:b<=a) (o:a<=maxLen):
 Calls prog 165 #[.slice d b a,.int .i64 e] c fun i m=>i=.returned (.tuple #[.int .u64 (k:Int),.int .i64 l,.int .i64 j])/\c=m:=
 (aCB d b a f e g c r q o).mono fun i m ⟨p,s⟩=>⟨by rw [p,n];rfl,s⟩
def zY (c b a:Nat) (g:c < 256 ^ a) (m:b < 256) (l:a < 4):bits .or .u32 (c:Int) ((b:Int)*2 ^(8*a)% 4294967296)=((c+b*256 ^ a:Nat):Int):=by
 have d:(256:Nat)^ a=2 ^(8*a):=by rw [Nat.pow_mul]
 have e:b*256 ^ a < 4294967296:=by have k:b*256 ^ a<=255*256 ^ a:=Nat.mul_le_mul_right _ oM;have i:256 ^ a<=256 ^ 3:=zBo oM oM;omega
 have j:c < 4294967296:=by have i:256 ^ a<=256 ^ 3:=zBo oM oM;omega
 have f:((b:Int)*2 ^(8*a)% 4294967296)=((b*256 ^ a:Nat):Int):=by
  rw [d] at e⊢;have:(b:Int)*2 ^(8*a)=((b*2 ^(8*a):Nat):Int):=by push_cast;rfl
  rw [this];omega
 rw [f,u32_or_nat _ _ j e,Nat.or_comm,nat_join (8*a) (b*256 ^ a) c (by rw [d];exact Nat.mul_mod_left _ _) (by rw [<-d];exact g),zCo]
def aAA (c:Nat) (b:World):
 Calls prog 80 #[.int .u32 (c:Int)] b fun o n=>∃d,o=.returned d/\n.ownsRow b.heap.size 5 1 d 4 ((iG c).map bv)/\Below b.heap.size b n:=by
 obtain ⟨x,s,u,v,w⟩:=info_parts fQ;go_enter func80,ntmps80;go_wp2;go_loopw [0,3,4] (fun y d g wr=>∃a:Nat,a<=4/\g=.int .i64 a/\y=.int .u32 ((c / 256 ^ a:Nat):Int)/\wr.ownsRow b.heap.size 5 1 d a ((rI a c).map bv)/\Below b.heap.size b wr) (fun _ _ g _=>4 -(intOf g).toNat)
 case atStart=>exact ⟨0,zAp _,rfl,by simp,World.ownsRow_nil _ _ _ _,Below.refl _ _⟩
 case round=>
  obtain ⟨a,A,rfl,rfl,f,e⟩:=hrel;have j:=e.size;by_cases B:a < 4
  · generalize k:c / 256 ^ a=m;have i:=lhd k;clear k;go_wp2_with (at_builtin;refine aZ _ rfl (.tmp 6) (.tmp 9) _ rfl b.heap.size 5 x (.int .u8 0) 1 1 underlying22 s u v w rfl dC u3 a _ rfl f rfl rfl (by simp [Value.oneCell']) (by unfold maxLen;omega) oM j ?_;intro D E l r C z);have q:=aS e f r j;refine ⟨⟨a+1,by omega,by go_num,eA ?_,?_,q⟩,by simp [intOf];omega⟩;rw [Nat.pow_succ,<-Nat.div_div_eq_div_mul,i.out];push_cast;rfl;have t:Value.int .u8 ((m:Int)% 256)=bv (UInt8.ofNat (m % 256)):=(by unfold bv;congr 1;simp [UInt8.toNat_ofNat']);rw [t] at l;rw [rI,i.out];simpa using l
  · have p:a=4:=oM;subst p;go_wp2;go_ret;exact ⟨u3,rfl,f,e⟩
def qP (d:Nat) (a:World):
 Calls prog 80 #[.int .u32 (d:Int)] a fun f e=>∃b c,f=.returned (.slice b 4 c)/\Made e a.heap.size 5 1 b 4 c ((iG d).map bv)/\Below a.heap.size a e:=by
 refine (aAA d a).mono fun f e ⟨l,i,k,g⟩=>?_;obtain ⟨b,c,rfl,j⟩:=aO k;exact ⟨b,c,i,j,g⟩
def iA {b:Nat} {d c:Int} {a:Nat×Int} (f:d=(b:Int)) (e:a=(b,c)):Ending.returned (.tuple #[.int .u32 d,.int .i64 c])=Ending.returned (.tuple #[.int .u32 (a.1:Int),iv a.2]):=by subst e;subst f;rfl
def aDh (q:Option Addr) (f A:Nat) (b:List UInt8) (e:Int) (w:Nat) (p:World) (n:Rd p w 1 q f (b.map bv)) (E:f<=maxLen):
 Calls prog 82 #[.slice q f A,.int .i64 e] p fun B J=>B=.returned (.tuple #[.int .u32 ((ofB b e).1:Int),iv (ofB b e).2])/\p=J:=by
 unfold maxLen at E;have s:b.length=f:=by simpa using n.1
 obtain ⟨i,y⟩:=hqq2 s n;clear s n;by_cases m:e < 0
 · have d:ofB b e=(0,2):=(by rw [ofB,zBw (.inl m)]);have g:=lhd d;clear d;go_enter func82,ntmps82;go_wp2;go_ret2;exact ⟨iA rfl g.out,rfl⟩
 by_cases r:(f:Int) < e
 · have d:ofB b e=(0,2):=(by rw [ofB,zBw (.inr (by rw [i.out];exact r))]);have g:=lhd d;clear d;go_enter func82,ntmps82;go_wp2;go_ret2;exact ⟨iA rfl g.out,rfl⟩
 by_cases G:(f:Int) - e < 4
 · have d:ofB b e=(0,4):=(by rw [ofB,zBv (by rw [i.out];omega),zBw (by rw [i.out];omega)]);have g:=lhd d;clear d;go_enter func82,ntmps82;go_wp2;go_ret2;exact ⟨iA rfl g.out,rfl⟩
 obtain ⟨c,rfl⟩:=Int.eq_ofNat_of_zero_le (Int.not_lt.1 m);have d:ofB b (c:Int)=(ofN b c 4,0):=by rw [ofB,zBv (by rw [i.out];omega),zBv (by rw [i.out];omega)];rfl
 have g:=lhd d;have L:c+4<=f:=oM;have N:decide ((c:Int) < 0)=false:=by simp
 have O:decide (f < c)=false:=by simp;omega
 have P:decide ((f:Int) -(c:Int) < 4)=false:=by simp;omega
 clear d m r G;go_enter func82,ntmps82;go_wp2
 go_loop [6,23] (fun I o=>∃a:Nat,a<=4/\o=.int .i64 a/\I=.int .u32 (ofN b c a:Int)) (fun _ o=>4 -(intOf o).toNat)
 case atStart=>exact ⟨0,zAp _,rfl,rfl⟩
 case round=>
  obtain ⟨a,Q,rfl,rfl⟩:=hrel;by_cases F:a < 4
  · obtain ⟨K,R,S,rfl,M,v,D⟩:=y.out.get (k:=c+a) oM;have l:∃j,b[c+a]?=some j:=⟨b[c+a]'(by have:=i.out;omega),zAa (by have:=i.out;omega)⟩;obtain ⟨j,l⟩:=l;simp only [zAf,l,Option.map_some,Option.some.injEq] at v;subst v;unfold bv at D;have u:ofN b c (a+1)=ofN b c a+j.toNat*256 ^ a:=(by rw [ofN,l];rfl);have t:=aCV b c a;obtain ⟨z,x⟩:=hqq2 u t;generalize ofN b c a=acc at*
    have H:j.toNat < 256:=j.toNat_lt;clear l u t;go_wp2;refine ⟨⟨a+1,by omega,by go_num,eA ?_⟩,by simp [intOf];omega⟩;rw [z.out];exact zY acc j.toNat a x.out H F
  · have C:a=4:=oM;subst C;go_wp2;go_ret2;exact ⟨iA rfl g.out,rfl⟩
def aCL (c:Option Addr) (a g:Nat) (e:List UInt8) (d:Int) (f:Nat) (b:World) (k:Nat) (j:Int) (m:ofB e d=(k,j)) (p:Rd b f 1 c a (e.map bv)) (n:a<=maxLen):
 Calls prog 82 #[.slice c a g,.int .i64 d] b fun i l=>i=.returned (.tuple #[.int .u32 (k:Int),.int .i64 j])/\b=l:=
 (aDh c a g e d f b p n).mono fun i l ⟨o,q⟩=>⟨by rw [o,m];rfl,q⟩
end
section
def qZ:(prog.info? 3).map (fun a=>(a.zero,a.size,a.bytes))=some (some (.int .i64 0),1,8):=by kernel_rfl
def zE (b:List Int) (a:Int×Nat) (c:a∈aG b):a.1∈b:=by
 have e:=(pY b).1 a c;have d:a.1∈bH (aG b):=List.mem_flatMap.2 ⟨a,c,List.mem_replicate.2 ⟨by omega,rfl⟩⟩;rwa [iI] at d
def sX {b:List Nat} (c:∀a∈b,a < 257):∀a∈aG (eG b),fB a.1:=by
 intro a d;obtain ⟨f,e,g⟩:=zAy.1 (zE _ a d);have:=c f e;unfold fB;omega
def iV (a:List Nat):(eG a).length=a.length:=by simp [eG]
def wT {a:List Nat} (b:∀c∈a,c < 257):kU (eG a)=some (cF a):=by
 unfold kU;rw [zBw (sX b)];rfl
def jX (a:List Nat):(cF a).length<=11+22*a.length:=by
 unfold cF;have d:=mP (aG (eG a));have c:=gJ (eG a);have e:=bP (aG (eG a)).length;rw [iV] at c;have b:cL (aG (eG a))=aH (aG (eG a)).length++(aG (eG a)).flatMap bE:=by simp [cL]
 rw [b,zAi];omega
def qX (c:List Nat) (b a:Nat):List UInt8:=(List.range a).flatMap fun a=>aH (c.idxOf (a*b))
def lU (c:List Nat) (b a:Nat):qX c b (a+1)=qX c b a++aH (c.idxOf (a*b)):=by
 unfold qX;rw [List.range_succ,List.flatMap_append];simp
def kM (c:List Nat) (b a:Nat):(qX c b a).length<=11*a:=by
 induction a with
 | zero=>simp [qX]
 | succ a d=>
   rw [lU,zAi];have:=bP (c.idxOf (a*b));omega
def nD (c:List Nat) (a b:Nat):jK c a b=qX c a (b / a+1):=rfl
def aB3 (c:List Nat) (b a:Nat):a<=(qX c b a).length:=by
 induction a with
 | zero=>simp
 | succ a d=>
   rw [lU,zAi];have:=aBx (c.idxOf (a*b));omega
def aCZ {c a b:Nat} (g:1<=a) (f:c<=b / a+1) (d:¬c*a<=b):c=b / a+1:=by
 have e:b / a < c:=(Nat.div_lt_iff_lt_mul oM).2 oM;omega
def aCW {c a b:Nat} (e:1<=a) (d:c*a<=b):c+1<=b / a+1:=by
 have:=(Nat.le_div_iff_mul_le oM).2 d;omega
end
section
open Go.RowKit
def zB (a:Int) (b:World) (d:fB a):Calls prog 91 #[.int .i64 a] b fun c e=>c=.returned (.bool true)/\b=e:=by
 obtain ⟨f,g⟩:=d;go_enter func91,ntmps91;go_wp2;go_ret;exact ⟨kT (by simp <;> omega),rfl⟩
def aAN (a:Int) (b:World) (d:¬fB a):Calls prog 91 #[.int .i64 a] b fun c g=>c=.returned (.bool false)/\b=g:=by
 have e:a < 0∨(0<=a/\257<=a):=by unfold fB at d;omega
 rcases e with f |⟨f,i⟩
 · go_enter func91,ntmps91;go_wp2;go_ret;exact ⟨kT (by simp <;> omega),rfl⟩
 · go_enter func91,ntmps91;go_wp2;go_ret;exact ⟨kT (by simp <;> omega),rfl⟩
def aCz (f g:World) (e:Option (List UInt8)) (d:Ending):Prop:=
 (∃a b c,e=some a/\d=.returned (.tuple #[.slice b a.length c,.int .i64 0])/\Made g f.heap.size 5 1 b a.length c (a.map bv))∨
 (e=none/\d=.returned (.tuple #[.slice none 0 0,.int .i64 1]))
def xQ (M:Option Addr) (x ar N:Nat) (k:List Int) (e:World) (H:Rd e N 1 M x (k.map iv)) (aB:N<=e.heap.size) (ba:x<=1000000):
 Calls prog 74 #[.slice M x ar] e fun n aa=>aCz e aa (kU k) n/\Below e.heap.size e aa:=by
 obtain ⟨aZ,aI,aW,aX,aY⟩:=info_parts fQ;have aL:k.length=x:=by simpa using H.1
 obtain ⟨b,r⟩:=eqx (aG k);obtain ⟨c,a1⟩:=eqx b.length;have bb:c<=1000000:=by have:=gJ k;rw [r] at this;omega
 have S:∀d∈b,d.2<=1000000:=fun d f=>by have:=jQ k d (by rw [r];exact f);omega
 have af:=lhd S;have a4:kU k=if ∀d∈b,fB d.1 then some (cL b) else none:=by unfold kU;rw [r]
 obtain ⟨O,aq,Hn,ao⟩:=hqq4 a4 r a1 H;have b4:=Below.refl e.heap.size e;clear H aL r a1 a4 S;go_enter func74,ntmps74;go_wp2_with fail;refine (aBO _ _ _ _ k _ b c aq.out Hn.out ao.out aB oM).mono ?_;rintro n w1 ⟨y,A,rfl,W,D⟩;have aQ:=D.size;have am:=lhd W.own;clear W;obtain ⟨k0,F⟩:=eqx ((aH c).length);have b8:k0<=11:=by rw [<-F];exact bP c
 have ai:=lhd F;clear F;go_wp2_with fail;refine (pA _ _ _ _ [c] _ (aH c) k0 (jY c) ai.out (Rd.made _ _ 1 1 _ rfl) nL (by simp;omega) oM).mono ?_;rintro n K ⟨ad,av,rfl,X,t⟩;have Q:=(D.alloc aQ _).trans (t.mono (by simp;omega));have be:=Q.size;have bd:w1.heap.size < K.heap.size:=by have:=t.size;simp at this;omega
 have aM:K.ownsRow e.heap.size 5 1 (.slice ad k0 av) k0 ((aH c).map bv):=cU X.own (by simp;omega);have j:K.ownsRow e.heap.size 196 2 (.slice y c A) c (aV b):=aF (am.out.alloc _) t;clear X t D;go_wp2_with fail;go_loopw [5,17] (fun b1 J wr=>∃a l:Nat,a<=c/\J=.int .i64 a/\wr.ownsRow e.heap.size 5 1 b1 l ((aH c++(b.take a).flatMap bE).map bv)/\wr.ownsRow e.heap.size 196 2 (.slice y c A) c (aV b)/\Below e.heap.size e wr/\∀d∈b.take a,fB d.1) (fun _ J _=>c -(intOf J).toNat)
 case atStart=>exact ⟨0,k0,zAp _,rfl,by simpa using aM,j,Q,by simp⟩
 case round=>
  obtain ⟨a,l,b7,rfl,q,j,s,a3⟩:=hrel;have z:=lhd a3;have a7:=s.size;have bc:l<=22000011:=by have C:=q.1;have P:=mP (b.take a);have az:=bP c;rw [zAj] at P;simp only [zBc,zAi] at C;omega
  clear a3;by_cases V:a < c
  · obtain ⟨d,f⟩:∃d,b[a]?=some d:=⟨b[a]'(by have:=Hn.out;omega),zAa (by have:=Hn.out;omega)⟩;obtain ⟨i,aA,b6⟩:∃i,y=some ⟨i,0,none⟩/\i < wr.heap.size:=(by obtain ⟨i,b3,aR,_,V⟩:=j.form oM;injection aR with C P az;exact ⟨i,C,V⟩);subst aA;have ax:wr.cell? ⟨i,a*2,none⟩=some (.int .i64 d.1):=(j.cellAt (a*2) oM).trans ((eU b a 0 d f oM).trans rfl);have ay:wr.cell? ⟨i,a*2+1,none⟩=some (.int .i64 (d.2:Int)):=(j.cellAt (a*2+1) oM).trans ((eU b a 1 d f oM).trans rfl);have a2:=pF b a d f;have aT:=af.out d (zAd f);have U:∀g∈b.take (a+1),g∈b.take a∨g=d:=(by intro g a9;have aJ:a < b.length:=(zAc.1 f).1;rw [List.take_succ_eq_append_getElem aJ,(zAc.1 f).2] at a9;simpa using a9);have a0:=zAd f;obtain ⟨b0,g⟩:=d;simp only at ax ay aT;obtain ⟨al,ah,ak⟩:=hqq3 a2 U a0;clear a2 f U a0;by_cases o:fB b0
    · obtain ⟨m,rfl⟩:=Int.eq_ofNat_of_zero_le o.1;have bf:(m:Int) < 257:=o.2;have p:=lhd o;clear o;obtain ⟨w,G⟩:=eqx ((bE ((m:Int),g)).length);have b9:w<=22:=(by rw [<-G];exact mM _);have aj:=lhd G;have T:bX [m,g]=bE ((m:Int),g):=(by simp [bX,bE]);have ag:=lhd T;clear G T;go_wp2_with (go_at_call 91;refine (zB _ _ p.out).mono ?_;rintro n b2 ⟨rfl,rfl⟩);refine (pA _ _ _ _ [m,g] _ (bE ((m:Int),g)) w ag.out aj.out (Rd.made' _ _ 1 2 _ _ rfl (by simp)) nL (by simp;omega) oM).mono ?_;rintro n L ⟨ae,aw,rfl,Z,u⟩;have R:=((s.alloc a7 _).alloc (by simp;omega) _).trans (u.mono (by simp;omega));have a6:=R.size;have v:L.ownsRow e.heap.size 5 1 u5 l ((aH c++(b.take a).flatMap bE).map bv):=aF ((q.alloc _).alloc _) u;have I:L.ownsRow e.heap.size 196 2 (.slice (some ⟨i,0,none⟩) c A) c (aV b):=aF ((j.alloc _).alloc _) u;have ap:=lhd Z.rd;have an:=lhd (gO (bE ((m:Int),g)));clear Z u q j;go_wp2_with (at_builtin;refine bK _ rfl (.tmp 25) (.tmp 33) _ rfl e.heap.size 5 aZ (.int .u8 0) 1 1 underlying22 aI aW aX aY rfl dC u5 l _ rfl v L.heap.size ae w aw _ rfl ap.out an.out (by unfold maxLen;omega) oM a6 ?_;intro bg bh aN E aE);have aC:=aS R v E a6;have aP:=I.kept E (wI I v dC);clear E aE I v;go_roundw
      case rel=>refine ⟨a+1,l+w,by omega,by go_num,?_,aP,aC,?_⟩;rw [al.out,<-zCk,zAz];exact aN;intro ab aU;rcases ah.out ab aU with B | B;exact z.out ab B;rw [B];exact p.out
      case measure=>simp [intOf];omega
    · have p:=lhd o;clear o;go_wp2_with (go_at_call 91;refine (aAN _ _ p.out).mono ?_;rintro n b2 ⟨rfl,rfl⟩);go_ret2;refine ⟨.inr ⟨?_,rfl⟩,s.alloc a7 _⟩;rw [O.out,zBv];intro aD;exact p.out (aD _ ak.out)
  · have aK:a=c:=oM;have b5:c<=a:=oM;have a8:b.take a=b:=zAg (by have:=Hn.out;omega);rw [a8] at q z;clear aK a8 j;obtain ⟨ac,au,rfl,Y⟩:=aO q;go_wp2;go_ret2;have a5:(cL b).length=l:=(by have:=Y.len;rw [zBc] at this;rw [<-this,cL,Hn.out]);refine ⟨.inl ⟨cL b,ac,au,?_,?_,?_⟩,s⟩
    · rw [O.out,zBw z.out]
    rw [a5];rfl;rw [a5,cL,Hn.out];exact Y
def sH (e f:World) (a:List Int×Int) (d:Ending):Prop:=
 ∃b c,d=.returned (.tuple #[.slice b a.1.length c,.int .i64 a.2])/\Made f e.heap.size 3 1 b a.1.length c (a.1.map iv)
def dP {d e:World} {b:List Int×Int} {a:Int} (c:([],a)=b):sH d e b (.returned (.tuple #[.slice none 0 0,.int .i64 a])):=by
 subst c;exact ⟨none,0,rfl,⟨World.ownsRow_nil _ _ _ _,Rd.nil _ _ _ _,zAs _,zAp _⟩⟩
def mX (Z:Option Addr) (s S:Nat) (e:List UInt8) (Q:Int) (k:World) (E:TypeInfo) (ax:prog.info? 3=some E) (aC:E.zero=some (.int .i64 0)) (aD:E.size=1) (aE:E.bytes=8)
 (B:Hid (e.length=s)) (a3:Hid (Rd k k.heap.size 1 Z s (e.map bv))) (an:Below k.heap.size k k) (j:s<=S) (i:S<=maxLen) (t:List Int×Int) (R F:Nat) (ap:F<=s)
 (ai:Hid (aW e 0=(R,(F:Int),0))) (ak:Hid (R < 18446744073709551616)) (f:Nat) (aj:Hid (rgo e f R F 257 []=t)) (aT:f<=1099511627776) (a7:Q=(f:Int)∨(Q < 0/\f<=0)):
 Calls prog 85 #[.slice Z s S,.int .i64 Q] k fun a ag=>sH k ag t a/\Below k.heap.size k ag:=by
 have a1:=lhd a7;clear a7;go_enter func85,ntmps85;go_wp2_with (go_at_call 165;refine (cQ _ _ _ _ _ _ _ _ _ _ ai.out a3.out j i).mono ?_;rintro a n ⟨rfl,rfl⟩);go_loopw [6,7,9,10] (fun Y aG X aH wr=>∃(q o r:Nat) (m:List Int),Y=.int .u64 (q:Int)/\aG=.int .i64 (o:Int)/\aH=.int .u64 (r:Int)/\wr.ownsRow k.heap.size 3 1 X m.length (m.map iv)/\m.length<=f/\o<=s/\q < 18446744073709551616/\rgo e f q o r m=t/\Below k.heap.size k wr) (fun Y _ _ _ _=>(intOf Y).toNat)
 case atStart=>exact ⟨R,F,257, [],rfl,rfl,rfl,World.ownsRow_nil _ _ _ _,zAp _,ap,ak.out,aj.out,an⟩
 case round=>
  obtain ⟨q,o,r,m,rfl,rfl,rfl,C,aq,ao,ab,a8,p⟩:=hrel;obtain ⟨x,Hn⟩:=hqq2 a8 ab;have aV:=p.size;have ac:=a3.out.below p;have l:=lhd ac;clear a8 ab ac;rcases q with _ | q
  · have aN:((0:Nat):Int)=0:=rfl;by_cases K:o=s
    · have c:(m,0)=t:=(by rw [<-x.out,rgo,zBw (by rw [B.out];exact K)]);have g:=lhd c;have ht:((o:Int)==(s:Int))=true:=(by rw [zCn];omega);obtain ⟨a0,a6,rfl,V⟩:=aO C;clear K c C;go_wp2;go_ret2;refine ⟨?_,p⟩;rw [<-g.out];exact ⟨a0,a6,rfl,V⟩
    · have c:([],4)=t:=(by rw [<-x.out,rgo,zBv (by rw [B.out];exact K)]);have g:=lhd c;have ht:((o:Int)==(s:Int))=false:=(by rw [zCa];omega);clear K c;go_wp2;go_ret2;exact ⟨dP g.out,p⟩
  · have D:o<=e.length:=(by rw [B.out];exact ao);rcases h1:bO (e.drop o) true 0 o with _ |⟨b,A⟩
    · have c:([],4)=t:=(by rw [<-x.out,tM _ _ _ _ _ _ (tH _ _ h1)]);obtain ⟨g,v⟩:=hqq2 c (jW e o D h1);clear c D h1;go_wp2_with (go_at_call 165;refine (cQ _ _ _ _ _ _ _ _ _ _ v.out l.out j i).mono ?_;rintro a n ⟨rfl,rfl⟩);go_ret2;exact ⟨dP g.out,p⟩
    · have M:=oF _ _ _ _ _ _ h1;have y:=jV e o b A D h1;have aB:A<=s:=(by rw [zAw,B.out] at M;omega);have P:A<=e.length:=(by rw [B.out];exact aB);obtain ⟨v,aJ⟩:=hqq2 y M.2.2;rcases h2:bO (e.drop A) true 0 A with _ |⟨d,a⟩
      · have c:([],4)=t:=(by rw [<-x.out,tM _ _ _ _ _ _ (tG _ _ _ _ h1 h2)]);obtain ⟨g,w⟩:=hqq2 c (jW e A P h2);clear c D h1 h2 y M P;go_wp2_with fail;refine (cQ _ _ _ _ _ _ _ _ _ _ v.out l.out j i).mono ?_;rintro a n ⟨rfl,rfl⟩;go_wp2_with fail;refine (cQ _ _ _ _ _ _ _ _ _ _ w.out l.out j i).mono ?_;rintro a n ⟨rfl,rfl⟩;go_wp2;go_ret2;exact ⟨dP g.out,p⟩
      · have U:=oF _ _ _ _ _ _ h2;have H:=jV e A d a P h2;have av:a<=s:=(by rw [zAw,B.out] at U;omega);have w:=lhd H;have ad:rgo e f (q+1) o r m=if 257<=b∨b=r∨d=0 then ([],4) else if f - m.length < d then ([],3) else rgo e f q a b (m++List.replicate d (b:Int)):=tL _ _ _ _ _ _ _ _ _ (nZ _ _ _ _ _ _ h1 h2);obtain ⟨a4,aI⟩:=hqq2 ad U.2.2;clear D h1 h2 y M P H U ad;by_cases I:257<=b∨b=r∨d=0
        · have c:([],4)=t:=(by rw [<-x.out,a4.out,zBw I]);have g:=lhd c;have au:257<=b∨(b < 257/\b=r)∨(b < 257/\b≠r/\d=0):=oM;clear c I;rcases au with G |⟨G,T⟩|⟨G,T,am⟩
          · go_wp2_with fail;refine (cQ _ _ _ _ _ _ _ _ _ _ v.out l.out j i).mono ?_;rintro a n ⟨rfl,rfl⟩;go_wp2_with fail;refine (cQ _ _ _ _ _ _ _ _ _ _ w.out l.out j i).mono ?_;rintro a n ⟨rfl,rfl⟩;go_wp2;go_ret2;exact ⟨dP g.out,p⟩
          · subst T;go_wp2_with fail;refine (cQ _ _ _ _ _ _ _ _ _ _ v.out l.out j i).mono ?_;rintro a n ⟨rfl,rfl⟩;go_wp2_with fail;refine (cQ _ _ _ _ _ _ _ _ _ _ w.out l.out j i).mono ?_;rintro a n ⟨rfl,rfl⟩;go_wp2;go_ret2;exact ⟨dP g.out,p⟩
          · subst am;have ht:((b:Int)==(r:Int))=false:=(by rw [zCa];omega);clear T;go_wp2_with fail;refine (cQ _ _ _ _ _ _ _ _ _ _ v.out l.out j i).mono ?_;rintro a n ⟨rfl,rfl⟩;go_wp2_with fail;refine (cQ _ _ _ _ _ _ _ _ _ _ w.out l.out j i).mono ?_;rintro a n ⟨rfl,rfl⟩;go_wp2;go_ret2;exact ⟨dP g.out,p⟩
        · have aK:b < 257:=oM;have aR:0 < d:=oM;have aX:((d:Int)==0)=false:=(by rw [zCa];omega);have aY:decide ((257:Int)<=(b:Int))=false:=(by simp;omega);have ht:((b:Int)==(r:Int))=false:=(by rw [zCa];omega);obtain ⟨z,O⟩:=eqx m.length;have ae:rgo e f (q+1) o r m=if f - z < d then ([],3) else rgo e f q a b (m++List.replicate d (b:Int)):=(by rw [a4.out,zBv I,O]);obtain ⟨a5,a2⟩:=hqq2 ae O;rw [O] at C aq;obtain ⟨a0,a6,rfl,V⟩:=aO C;have al:=lhd C;have az:=Hn.out;have ay:∃aF:Int,aF=(f:Int) -(z:Int):=⟨_,rfl⟩;clear I ae O V C ay;by_cases L:f - z < d
          · have c:([],3)=t:=(by rw [<-x.out,a5.out,zBw L]);have g:=lhd c;have aw:(f:Int) -(z:Int) < (d:Int):=oM;clear c L az;rcases a1.out with J |⟨J,aL⟩
            · subst J;go_wp2_with fail;refine (cQ _ _ _ _ _ _ _ _ _ _ v.out l.out j i).mono ?_;rintro a n ⟨rfl,rfl⟩;go_wp2_with fail;refine (cQ _ _ _ _ _ _ _ _ _ _ w.out l.out j i).mono ?_;rintro a n ⟨rfl,rfl⟩;go_wp2;go_ret2;exact ⟨dP g.out,p⟩
            · go_wp2_with fail;refine (cQ _ _ _ _ _ _ _ _ _ _ v.out l.out j i).mono ?_;rintro a n ⟨rfl,rfl⟩;go_wp2_with fail;refine (cQ _ _ _ _ _ _ _ _ _ _ w.out l.out j i).mono ?_;rintro a n ⟨rfl,rfl⟩;go_wp2;go_ret2;exact ⟨dP g.out,p⟩
          · have c:rgo e f q a b (m++List.replicate d (b:Int))=t:=(by rw [<-x.out,a5.out,zBv L]);have g:=lhd c;have aw:(d:Int)<=(f:Int) -(z:Int):=oM;have J:Q=(f:Int):=(by rcases a1.out with G |⟨_,G⟩<;> omega);subst J;clear c L;go_wp2_with fail;refine (cQ _ _ _ _ _ _ _ _ _ _ v.out l.out j i).mono ?_;rintro a n ⟨rfl,rfl⟩;go_wp2_with fail;refine (cQ _ _ _ _ _ _ _ _ _ _ w.out l.out j i).mono ?_;rintro a n ⟨rfl,rfl⟩;go_wp2;go_loopw [9,73] (fun X W ah=>∃u:Nat,u<=d/\W=.int .u64 (u:Int)/\ah.ownsRow k.heap.size 3 1 X (z+u) ((m++List.replicate u (b:Int)).map iv)/\Below k.heap.size k ah) (fun _ W _=>d -(intOf W).toNat)
            case atStart=>exact ⟨0,zAp _,rfl,by simpa using al.out,p⟩
            case round=>
             obtain ⟨u,aP,rfl,N,y⟩:=hrel;have af:=y.size;by_cases aQ:u < d
             · go_wp2_with (at_builtin;refine aZ _ rfl (.tmp 75) (.tmp 78) _ rfl k.heap.size 3 E (.int .i64 0) 1 8 underlying27 ax aC aD aE rfl dC u9 (z+u) _ rfl N rfl rfl (by simp [Value.oneCell']) (by unfold maxLen;omega) oM af ?_;intro b0 b1 aA a9 aU ar);have H:=aS y N a9 af;clear a9 ar;go_roundw
               case rel=>refine ⟨u+1,by omega,by go_num,?_,H⟩;rw [List.replicate_succ',<-zCk,zAz];exact aA
               case measure=>simp [intOf];omega
             · have aa:u=d:=oM;have aM:d<=u:=oM;rw [aa] at N;clear aa;go_wp2;refine ⟨⟨q,a,b,m++List.replicate d (b:Int),eA oM,rfl,rfl,?_,?_,av,by omega,g.out,y⟩,by simp [intOf]⟩;rw [zAi,zCj,a2.out];exact N;rw [zAi,zCj,a2.out];omega
def xR (n:Option Addr) (e i x:Nat) (a:List UInt8) (b:Int) (c:World) (q:Rd c x 1 n e (a.map bv)) (L:x<=c.heap.size) (w:e<=i) (u:i<=maxLen) (N:b<=1099511627776) (O:-9223372036854775808<=b):
 Calls prog 85 #[.slice n e i,.int .i64 b] c fun A K=>sH c K (gP a b) A/\Below c.heap.size c K:=by
 obtain ⟨J,C,G,H,I⟩:=info_parts qZ;have v:a.length=e:=by simpa using q.1
 obtain ⟨y,r⟩:=hqq2 v (q.mono L);have s:=Below.refl c.heap.size c;obtain ⟨p,l⟩:=eqx (gP a b);rw [l];rcases hfirst:bO a true 0 0 with _ |⟨m,f⟩
 · have j:aW a 0=(0,0,4):=jW a 0 (zAp _) (by simpa using hfirst);have k:([],4)=p:=(by rw [<-l,gP,hfirst]);obtain ⟨o,g⟩:=hqq2 j k;clear q v l j k hfirst;go_enter func85,ntmps85;go_wp2_with (go_at_call 165;refine (cQ _ _ _ _ _ _ _ _ _ _ o.out r.out w u).mono ?_;rintro A R ⟨rfl,rfl⟩)
   go_loop [6] (fun Q=>Q=.int .u64 0) (fun _=>0)
   case atStart=>rfl
   case round=>subst hrel;go_wp2;go_ret2;exact ⟨dP g.out,s⟩
 have D:=oF _ _ _ _ _ _ hfirst;have j:aW a 0=(m,(f:Int),0):=jV a 0 m f (zAp _) (by simpa using hfirst);have k:rgo a b.toNat m f 257 []=p:=(by rw [<-l,gP,hfirst]);have B:f<=e:=oM;obtain ⟨o,g,z⟩:=hqq3 j k D.2.2;obtain ⟨d,F⟩:∃d:Nat,b.toNat=d:=⟨_,rfl⟩;rw [F] at g;have E:d<=1099511627776:=oM;have t:b=(d:Int)∨(b < 0/\d<=0):=oM;clear q v l j k hfirst D F N O;rcases t with t |⟨P,M⟩;subst t;exact mX n e i a (d:Int) c J C G H I y r s w u p m f B o z d g E (.inl rfl);exact mX n e i a b c J C G H I y r s w u p m f B o z d g E (.inr ⟨P,M⟩)
def aAu (g:Option Addr) (f d i:Nat) (j:List UInt8) (b:Int) (a:World) (k:List Int) (l:Nat) (q:Int) (r:gP j b=(k,q)) (y:k.length=l) (z:Rd a i 1 g f (j.map bv)) (s:i<=a.heap.size) (v:f<=d) (u:d<=maxLen) (w:b<=1099511627776) (x:-9223372036854775808<=b):
 Calls prog 85 #[.slice g f d,.int .i64 b] a fun n m=>∃c e,n=.returned (.tuple #[.slice c l e,.int .i64 q])/\Made m a.heap.size 3 1 c l e (k.map iv)/\Below a.heap.size a m:=by
 subst y;refine (xR g f d i j b a z s v u w x).mono fun n m ⟨⟨c,e,o,p⟩,t⟩=>?_;rw [r] at o p;exact ⟨c,e,o,p,t⟩
end
end Go.Proofs.YtnmapianpjamnaaGreatDoor
