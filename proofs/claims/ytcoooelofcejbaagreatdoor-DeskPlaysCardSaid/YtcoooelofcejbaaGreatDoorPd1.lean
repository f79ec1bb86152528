/- Lemmas of the walk. Conditions: each its own. -/
import Derived.Test.YtcoooelofcejbaaGreatDoorPd0
import Derived.Test.YtcoooelofcejbaaGreatDoorProg
set_option linter.all false
set_option maxRecDepth 100000
set_option maxHeartbeats 4000000
namespace Go.Proofs.YtcoooelofcejbaaGreatDoor
open Tryz
section
def aX (c b:Nat):Nat:=(List.range b).countP (fun a=>c.testBit a)
def nZ (a:Nat):aX a 0=0:=rfl
def dA (b a:Nat):aX b (a+1)=aX b a+if b.testBit a then 1 else 0:=by
 unfold aX;rw [List.range_succ,List.countP_append,List.countP_singleton]
def oB (b a:Nat):aX b a<=a:=by
 induction a with
 | zero=>exact zAs _
 | succ a c=>
   rw [dA];split <;> omega
def aCl (c b a:Nat):aX c (b+a)=aX c b+aX (c >>> b) a:=by
 induction a with
 | zero=>simp [nZ]
 | succ a d=>
   rw [<-Nat.add_assoc,dA,d,dA,Nat.testBit_shiftRight];omega
def aCk (b a:Nat):aX (b % 2 ^ a) a=aX b a:=by
 unfold aX;apply List.countP_congr;intro d c;have:=zCj.1 c;simp [Nat.testBit_mod_two_pow,this]
def eW (i:Nat) {d:Nat} (j:Nat) {c a:Nat} (n:d < 256) (o:a<=8) (k:c < 2 ^(8 - a)):((256*i+d)>>> a)&&&(256*j+c)=256*((i >>> a)&&& j)+((d >>> a)&&& c):=by
 apply Nat.eq_of_testBit_eq;intro b;have l:c < 2 ^ 8:=zAl k (zBp dC oM);have m:((d >>> a)&&& c) < 2 ^ 8:=Nat.lt_of_le_of_lt Nat.and_le_right l;rw [Nat.testBit_and,Nat.testBit_shiftRight,show (256:Nat)=2 ^ 8 by decide,Nat.testBit_two_pow_mul_add _ (by simpa using n),Nat.testBit_two_pow_mul_add _ l,Nat.testBit_two_pow_mul_add _ m];by_cases g:b < 8
 · by_cases e:a+b < 8
   · simp [g,e,Nat.testBit_and]
   · have f:c.testBit b=false:=Nat.testBit_lt_two_pow (zAl k (zBp dC oM));simp [g,e,Nat.testBit_and,f]
 · have e:¬(a+b < 8):=oM;have f:a+b - 8=a+(b - 8):=oM;simp [g,e,f,Nat.testBit_and]
def b1 (a:Nat):Nat:=(a >>> 1&&& 85)+(a&&& 85)
def b2 (a:Nat):Nat:=(a >>> 2&&& 51)+(a&&& 51)
def aKX:∀a:Fin 256,b1 a.val < 256/\b2 (b1 a.val)/ 16<=4/\b2 (b1 a.val)% 16<=4/\b2 (b1 a.val)% 16+b2 (b1 a.val)/ 16=aX a.val 8:=by decide+kernel
def aCG {a:Nat} (b:a < 256):b1 a < 256/\b2 (b1 a)/ 16<=4/\b2 (b1 a)% 16<=4/\b2 (b1 a)% 16+b2 (b1 a)/ 16=aX a 8:=aKX ⟨a,b⟩
def cE (a b c d e f g i:Nat):Nat:=256*(256*(256*(256*(256*(256*(256*(256*0+i)+g)+f)+e)+d)+c)+b)+a
def pS {e f g i j k l m:Nat} (b a:Nat) (n:e < 256) (o:f < 256) (p:g < 256) (q:i < 256) (r:j < 256) (s:k < 256) (t:l < 256) (u:m < 256) (d:b<=8) (c:a < 2 ^(8 - b)):
 (cE e f g i j k l m >>> b)&&& cE a a a a a a a a=cE (e >>> b&&& a) (f >>> b&&& a) (g >>> b&&& a) (i >>> b&&& a) (j >>> b&&& a) (k >>> b&&& a) (l >>> b&&& a) (m >>> b&&& a):=by
 unfold cE;rw [eW _ _ n d c,eW _ _ o d c,eW _ _ p d c,eW _ _ q d c,eW _ _ r d c,eW _ _ s d c,eW _ _ t d c,eW _ _ u d c];simp
def tD (b c d e f g i j a:Nat) (k:b < 256) (l:c < 256) (m:d < 256) (n:e < 256) (o:f < 256) (p:g < 256) (q:i < 256) (r:j < 256) (s:a < 256):
 cE b c d e f g i j&&& cE a a a a a a a a=cE (b&&& a) (c&&& a) (d&&& a) (e&&& a) (f&&& a) (g&&& a) (i&&& a) (j&&& a):=by
 have:=pS 0 a k l m n o p q r oM (by simpa using s);simpa using this
def iU (a b c d e f g i j k l m n o p q:Nat):
 cE a b c d e f g i+cE j k l m n o p q=cE (a+j) (b+k) (c+l) (d+m) (e+n) (f+o) (g+p) (i+q):=by
 unfold cE;omega
def aBU (a:Nat):Nat:=
 let b:=(a >>> 1&&& 6148914691236517205)+(a&&& 6148914691236517205)
 let c:=(b >>> 2&&& 3689348814741910323)+(b&&& 3689348814741910323)
 (c >>> 4+c)&&& 1085102592571150095
def aIl {a:Nat} (b:a < 18446744073709551616):a=cE (a % 256) (a / 256 % 256) (a / 65536 % 256) (a / 16777216 % 256) (a / 4294967296 % 256) (a / 1099511627776 % 256) (a / 281474976710656 % 256) (a / 72057594037927936 % 256):=by
 unfold cE;omega
def aDA (i j k l m n o p:Nat) (s:i < 256) (t:j < 256) (u:k < 256) (v:l < 256) (w:m < 256) (x:n < 256) (y:o < 256) (z:p < 256):
 aBU (cE i j k l m n o p)=cE (aX i 8) (aX j 8) (aX k 8) (aX l 8) (aX m 8) (aX n 8) (aX o 8) (aX p 8):=by
 have M:(6148914691236517205:Nat)=cE 85 85 85 85 85 85 85 85:=dC;have O:(3689348814741910323:Nat)=cE 51 51 51 51 51 51 51 51:=dC;have R:(1085102592571150095:Nat)=cE 15 15 15 15 15 15 15 15:=dC;obtain ⟨A,S,a8,a0⟩:=aCG s;obtain ⟨B,T,a9,a1⟩:=aCG t;obtain ⟨C,U,aa,a2⟩:=aCG u;obtain ⟨D,V,ab,a3⟩:=aCG v;obtain ⟨E,W,ac,a4⟩:=aCG w;obtain ⟨F,X,ad,a5⟩:=aCG x;obtain ⟨G,Y,ae,a6⟩:=aCG y;obtain ⟨H,Z,af,a7⟩:=aCG z;have J:(cE i j k l m n o p >>> 1&&& 6148914691236517205)+(cE i j k l m n o p&&& 6148914691236517205)=cE (b1 i) (b1 j) (b1 k) (b1 l) (b1 m) (b1 n) (b1 o) (b1 p):=by rw [M,pS 1 85 s t u v w x y z oM dC,tD _ _ _ _ _ _ _ _ 85 s t u v w x y z oM,iU];rfl
 have K:(cE (b1 i) (b1 j) (b1 k) (b1 l) (b1 m) (b1 n) (b1 o) (b1 p)>>> 2&&& 3689348814741910323)+(cE (b1 i) (b1 j) (b1 k) (b1 l) (b1 m) (b1 n) (b1 o) (b1 p)&&& 3689348814741910323)=cE (b2 (b1 i)) (b2 (b1 j)) (b2 (b1 k)) (b2 (b1 l)) (b2 (b1 m)) (b2 (b1 n)) (b2 (b1 o)) (b2 (b1 p)):=by rw [O,pS 2 51 A B C D E F G H oM dC,tD _ _ _ _ _ _ _ _ 51 A B C D E F G H oM,iU];rfl
 have L:∀q a b c d e f g:Nat,q / 16<=4->q % 16<=4->a / 16<=4->a % 16<=4->b / 16<=4->b % 16<=4->c / 16<=4->c % 16<=4->d / 16<=4->d % 16<=4->e / 16<=4->e % 16<=4->f / 16<=4->f % 16<=4->g / 16<=4->g % 16<=4->
  (cE q a b c d e f g >>> 4+cE q a b c d e f g)&&& 1085102592571150095=cE (q % 16+q / 16) (a % 16+a / 16) (b % 16+b / 16) (c % 16+c / 16) (d % 16+d / 16) (e % 16+e / 16) (f % 16+f / 16) (g % 16+g / 16):=by
  intro q a b c d e f g ag ao ah ap ai aq aj ar ak au al av am aw an ax;have I:cE q a b c d e f g >>> 4=cE (q / 16+16*(a % 16)) (a / 16+16*(b % 16)) (b / 16+16*(c % 16)) (c / 16+16*(d % 16)) (d / 16+16*(e % 16)) (e / 16+16*(f % 16)) (f / 16+16*(g % 16)) (g / 16):=by rw [Nat.shiftRight_eq_div_pow];unfold cE;omega
  have N:∀r:Nat,r&&& 15=r % 16:=fun r=>Nat.and_two_pow_sub_one_eq_mod r 4;rw [I,iU,R,tD _ _ _ _ _ _ _ _ 15 oM oM oM oM oM oM oM oM oM];simp only [N];congr 1 <;> omega
 unfold aBU;simp only;rw [J,K,L _ _ _ _ _ _ _ _ S a8 T a9 U aa V ab W ac X ad Y ae Z af,a0,a1,a2,a3,a4,a5,a6,a7]
def aHe {i g f e d c b a:Nat} (s:i<=8) (t:g<=8) (u:f<=8) (v:e<=8) (w:d<=8) (x:c<=8) (y:b<=8) (z:a<=8) {j k n:Nat} (l:j=cE i g f e d c b a+cE i g f e d c b a / 256) (m:k=j+j / 65536) (o:n=k+k / 4294967296):
 n % 128=i+g+f+e+d+c+b+a/\n < 18446744073709551616:=by
 have p:cE i g f e d c b a / 256=cE g f e d c b a 0:=by unfold cE;omega
 rw [p,iU] at l;have q:j / 65536=cE (f+e) (e+d) (d+c) (c+b) (b+a) (a+0) 0 0:=by rw [l];unfold cE;omega
 rw [q,l,iU] at m;have r:k / 4294967296=cE (d+c+(b+a)) (c+b+(a+0)) (b+a+0) (a+0+0) 0 0 0 0:=by rw [m];unfold cE;omega
 rw [r,m,iU] at o;unfold cE at o;omega
def aDT (a:Nat):aX a 64=aX (a % 256) 8+aX (a / 256 % 256) 8+aX (a / 65536 % 256) 8+aX (a / 16777216 % 256) 8+aX (a / 4294967296 % 256) 8+aX (a / 1099511627776 % 256) 8+aX (a / 281474976710656 % 256) 8+aX (a / 72057594037927936 % 256) 8:=by
 have b:=fun c=>aCk c 8;simp only [show (2:Nat)^ 8=256 by decide] at b;simp only [b];rw [show (64:Nat)=8+(8+(8+(8+(8+(8+(8+8)))))) by decide];simp only [aCl];simp only [Nat.shiftRight_eq_div_pow,Nat.div_div_eq_div_mul,show (2:Nat)^ 8=256 by decide,Nat.reduceMul];omega
def aKW {a:Nat} (j:a < 18446744073709551616) {c d e:Nat} (f:c=aBU a+aBU a / 256) (k:d=c+c / 65536) (l:e=d+d / 4294967296):e % 128=aX a 64/\e < 18446744073709551616:=by
 have i:=aIl j;have g:=aDA (a % 256) (a / 256 % 256) (a / 65536 % 256) (a / 16777216 % 256) (a / 4294967296 % 256) (a / 1099511627776 % 256) (a / 281474976710656 % 256) (a / 72057594037927936 % 256) oM oM oM oM oM oM oM oM;rw [<-i] at g;rw [g] at f;have b:=fun m=>oB m 8;rw [aDT a];exact aHe (b _) (b _) (b _) (b _) (b _) (b _) (b _) (b _) f k l
end
section
open Go.RowKit
def aCK (a b:Nat) (e:a < 18446744073709551616) (f:b < 18446744073709551616):bits .and .u64 (a:Int) (b:Int)=((a&&& b:Nat):Int):=
 (bits_nat .u64 64 dC (fun g c d=>by rw [IntKind.wrap_u64];omega) a b oM oM).1
def aAD (a b d c:Nat) (j:a < 18446744073709551616) (i:d < 18446744073709551616) (g:2 ^ b=c):bits .and .u64 ((a:Int)/(c:Int)) (d:Int)=((a >>> b&&& d:Nat):Int):=by
 have e:((a:Int)/(c:Int))=((a >>> b:Nat):Int):=by rw [Nat.shiftRight_eq_div_pow,g];push_cast;rfl
 have f:a >>> b < 18446744073709551616:=by rw [Nat.shiftRight_eq_div_pow];exact Nat.lt_of_le_of_lt (Nat.div_le_self _ _) j
 rw [e,aCK _ _ f i]
def yY {a:Nat} (v:a < 18446744073709551616) (E:World):
 Calls prog 300 #[.int .u64 (a:Int)] E fun I L=>I=.returned (.int .i64 ((aX a 64:Nat):Int))/\E=L:=by
 obtain ⟨p,k⟩:∃c,c=a >>> 1&&& 6148914691236517205:=⟨_,rfl⟩;obtain ⟨q,l⟩:∃c,c=a&&& 6148914691236517205:=⟨_,rfl⟩;have b1:p<=6148914691236517205:=by rw [k];exact Nat.and_le_right
 have b2:q<=6148914691236517205:=by rw [l];exact Nat.and_le_right
 obtain ⟨d,y⟩:∃b,b=p+q:=⟨_,rfl⟩;obtain ⟨r,m⟩:∃c,c=d >>> 2&&& 3689348814741910323:=⟨_,rfl⟩;obtain ⟨s,n⟩:∃c,c=d&&& 3689348814741910323:=⟨_,rfl⟩;have F:r<=3689348814741910323:=by rw [m];exact Nat.and_le_right
 have G:s<=3689348814741910323:=by rw [n];exact Nat.and_le_right
 obtain ⟨e,z⟩:∃b,b=r+s:=⟨_,rfl⟩;obtain ⟨g,u⟩:∃K,K=e >>> 4+e:=⟨_,rfl⟩;have J:g=e / 16+e:=by rw [u,Nat.shiftRight_eq_div_pow]
 obtain ⟨f,o⟩:∃b,b=g&&& 1085102592571150095:=⟨_,rfl⟩;have H:f<=1085102592571150095:=by rw [o];exact Nat.and_le_right
 obtain ⟨i,A⟩:∃b,b=f+f / 256:=⟨_,rfl⟩;obtain ⟨j,B⟩:∃b,b=i+i / 65536:=⟨_,rfl⟩;obtain ⟨t,C⟩:∃b,b=j+j / 4294967296:=⟨_,rfl⟩;have x:f=aBU a:=by rw [o,u,z,m,n,y,k,l];rfl
 obtain ⟨w,O⟩:=aKW v (by rw [<-x];exact A) B C;have S:bits .and .u64 ((a:Int)/ 2) 6148914691236517205=(p:Int):=by rw [k];exact aAD a 1 6148914691236517205 2 v oM dC
 have V:bits .and .u64 (a:Int) 6148914691236517205=(q:Int):=by rw [l];exact aCK a 6148914691236517205 v oM
 have W:IntKind.u64.wrap ((p:Int)+(q:Int))=(d:Int):=by rw [IntKind.wrap_u64];omega
 have X:bits .and .u64 ((d:Int)/ 4) 3689348814741910323=(r:Int):=by rw [m];exact aAD d 2 3689348814741910323 4 oM oM dC
 have Y:bits .and .u64 (d:Int) 3689348814741910323=(s:Int):=by rw [n];exact aCK d 3689348814741910323 oM oM
 have Z:IntKind.u64.wrap ((r:Int)+(s:Int))=(e:Int):=by rw [IntKind.wrap_u64];omega
 have a0:IntKind.u64.wrap ((e:Int)/ 16+(e:Int))=(g:Int):=by rw [IntKind.wrap_u64];omega
 have a1:bits .and .u64 (g:Int) 1085102592571150095=(f:Int):=by rw [o];exact aCK g 1085102592571150095 oM oM
 have a2:IntKind.u64.wrap ((f:Int)+(f:Int)/ 256)=(i:Int):=by rw [IntKind.wrap_u64];omega
 have T:IntKind.u64.wrap ((i:Int)+(i:Int)/ 65536)=(j:Int):=by rw [IntKind.wrap_u64];omega
 have U:IntKind.u64.wrap ((j:Int)+(j:Int)/ 4294967296)=(t:Int):=by rw [IntKind.wrap_u64];omega
 have R:t < 9223372036854775808:=oM;have D:bits .and .i64 (t:Int) 127=((aX a 64:Nat):Int):=by have:=bits_mask .i64 63 dC (fun a3 M N=>by rw [IntKind.wrap_i64];omega) 7 dC (t:Int) oM oM;rw [show ((2:Int)^ 7 - 1)=127 by decide,show ((2:Int)^ 7)=128 by decide] at this;rw [this,<-w];omega
 clear k l y m n z u J o A B C x w b1 b2 F G H;go_enter func300,ntmps300;go_wp2;go_ret;exact ⟨eS (by first | exact D | simp [D]),rfl⟩
def aHS (d:Nat) {a c:Nat} (f:a<=c):aX (d % 2 ^ a) c=aX d a:=by
 obtain ⟨b,rfl⟩:∃b,c=a+b:=⟨c - a,by omega⟩;rw [aCl,aCk];have:(d % 2 ^ a)>>> a=0:=by rw [Nat.shiftRight_eq_div_pow];exact Nat.div_eq_of_lt (Nat.mod_lt _ (Nat.two_pow_pos a))
 rw [this];have e:∀b,aX 0 b=0:=fun b=>by unfold aX;simp
 rw [e];rfl
def aAZ (b:Nat) (a:Int):Nat:=b % 2 ^(min a.toNat 64)
def uvn (a:Nat):Value:=.int .u64 (a:Int)
def qY {d:Nat} (c:Int) (y:d < 18446744073709551616) (v:-9223372036854775808<=c/\c<=9223372036854775807) (g:World):
 Calls prog 301 #[.int .u64 (d:Int),.int .i64 c] g fun i o=>i=.returned (.int .u64 ((aAZ d c:Nat):Int))/\g=o:=by
 unfold aAZ;by_cases f:c<=0
 · have j:d % 2 ^(min c.toNat 64)=0:=(by rw [show c.toNat=0 by omega];simp [Nat.mod_one]);rw [j];go_enter func301,ntmps301;go_wp2;go_ret;exact ⟨rfl,rfl⟩
 · by_cases m:c>=64
   · have k:d % 2 ^(min c.toNat 64)=d:=(by rw [show min c.toNat 64=64 by omega];exact zBu oM);rw [k];have s:¬(c<=0):=f;go_enter func301,ntmps301;go_wp2;go_ret;exact ⟨rfl,rfl⟩
   · obtain ⟨b,rfl⟩:∃b:Nat,c=(b:Int):=⟨c.toNat,by omega⟩;have n:b < 64:=oM;have p:decide ((b:Int)<=0)=false:=(by simp;omega);have q:decide ((b:Int)>=64)=false:=(by simp;omega);have l:min (b:Int).toNat 64=b:=oM;rw [l];have w:2 ^ b < 18446744073709551616:=(by have:=Nat.pow_lt_pow_right (a:=2) dC n;omega);have e:((2:Int)^ b)=((2 ^ b:Nat):Int):=(by push_cast;rfl);have x:=Nat.two_pow_pos b;have r:IntKind.u64.wrap ((2:Int)^ b)=(2:Int)^ b:=(by rw [e,IntKind.wrap_u64];omega);have t:IntKind.u64.wrap ((2:Int)^ b - 1)=(2:Int)^ b - 1:=(by rw [e,IntKind.wrap_u64];omega);have u:bits .and .u64 (d:Int) ((2:Int)^ b - 1)=(d:Int)% 2 ^ b:=bits_mask .u64 64 dC (fun z f m=>by rw [IntKind.wrap_u64];omega) b oM (d:Int) oM oM;clear e;go_enter func301,ntmps301;go_wp2;go_ret;exact ⟨by first | rfl | simp,rfl⟩
def gU (j:Option Addr) (d w r:Nat) (c:List Nat) (e:World) (o:Rd e r 1 j d (c.map uvn)) (A:∀G∈c,G < 18446744073709551616) (N:d<=1048576):
 Calls prog 288 #[.slice j d w] e fun l p=>l=.returned (.int .i64 (((c.map fun b=>aX b 64).sum:Nat):Int))/\e=p:=by
 have B:c.length=d:=by simpa using o.1
 obtain ⟨v,t,k⟩:=hqq3 o A B;have x:∀a,((c.take a).map fun b=>aX b 64).sum<=a*64:=fun a=>by
  induction a with
  | zero=>simp
  | succ a F=>
    by_cases m:a < c.length;rw [List.take_succ_eq_append_getElem m,zAz,List.sum_append];have:=oB c[a] 64;simp only [List.map_cons,List.map_nil,List.sum_cons,List.sum_nil];omega;rw [zAg oM];rw [zAg oM] at F;omega
 have s:=lhd x;go_enter func288,ntmps288;go_wp2;go_loopw [3,8] (fun H i wr=>∃a:Nat,a<=d/\i=.int .i64 a/\H=.int .i64 ((((c.take a).map fun b=>aX b 64).sum:Nat):Int)/\e=wr) (fun _ i _=>d -(intOf i).toNat)
 case atStart=>exact ⟨0,zAp _,rfl,by simp,rfl⟩
 case round=>
  obtain ⟨a,m,rfl,rfl,rfl⟩:=hrel;by_cases n:a < d
  · have z:a < c.length:=(by rw [k.out];exact n);obtain ⟨b,g⟩:∃b,c[a]?=some b:=⟨c[a],zAa z⟩;obtain ⟨I,O,R,rfl,L,f,y⟩:=v.out.get n;rw [zAf,g] at f;simp at f;subst f;unfold uvn at y;have E:=t.out b (zAd g);have C:((c.take (a+1)).map fun b=>aX b 64).sum=((c.take a).map fun b=>aX b 64).sum+aX b 64:=(by rw [zAv,g];simp);have K:=s.out a;have J:=oB b 64;generalize ((c.take a).map fun b=>aX b 64).sum=q at*
    have u:=lhd C;go_wp2_with fail;refine (yY E _).mono ?_;rintro l p ⟨rfl,rfl⟩;go_wp2;go_roundw
    case rel=>exact ⟨a+1,by omega,by go_num,by rw [u.out];go_num,trivial⟩
    case measure=>simp [intOf];omega
  · have M:d<=a:=oM;have D:c.take a=c:=zAg (by have:=k.out;omega);rw [D];go_wp2;go_ret;exact ⟨rfl,rfl⟩
def vU (b:Nat) (a:Int):Nat:=aX b (min a.toNat 64)
def sP {a:Nat} (b:Int) (f:a < 18446744073709551616) (i:-9223372036854775808<=b/\b<=9223372036854775807) (d:World):
 Calls prog 292 #[.int .u64 (a:Int),.int .i64 b] d fun c e=>c=.returned (.int .i64 ((vU a b:Nat):Int))/\Below d.heap.size d e:=by
 have j:aAZ a b < 18446744073709551616:=by unfold aAZ;exact Nat.lt_of_le_of_lt (Nat.mod_le _ _) f
 have g:aX (aAZ a b) 64=vU a b:=aHS a (Nat.min_le_right _ _);go_enter func292,ntmps292;go_wp2_with fail;refine (qY b f i _).mono ?_;rintro c e ⟨rfl,rfl⟩;go_wp2_with fail;refine (gU _ 1 1 _ [aAZ a b] _ (Rd.made _ _ 1 1 _ rfl) (by simpa using j) oM).mono ?_;rintro c e ⟨rfl,rfl⟩;have k:(([aAZ a b].map fun a=>aX a 64).sum)=vU a b:=by simp [g]
 rw [k];go_wp2;go_ret;exact ⟨rfl,bR.alloc nL _⟩
end
section
def kK:List Bool->Nat
 | []=>0
 | b::l=>(if b then 1 else 0)+2*kK l
def uW (a:List Bool):kK a < 2 ^ a.length:=by
 induction a with
 | nil=>simp [kK]
 | cons b a c=>
   simp only [kK,zCg,Nat.pow_succ];cases b <;> simp <;> omega
def jC (b:List Bool) (a:Nat):(kK b).testBit a=b.getD a false:=by
 induction b generalizing a with
 | nil=>simp [kK]
 | cons c b e=>
   cases a with
   | zero=>
     simp only [kK,List.getD_cons_zero,Nat.testBit_zero];cases c <;> simp <;> omega
   | succ a=>
     have d:((if c then 1 else 0)+2*kK b)/ 2=kK b:=(by cases c <;> simp <;> omega);simp only [kK,List.getD_cons_succ,Nat.testBit_succ,d];exact e a
def aCw (a b:List Bool):kK (a++b)=kK a+2 ^ a.length*kK b:=by
 induction a with
 | nil=>simp [kK]
 | cons d a c=>
   simp only [List.cons_append,kK,c,zCg,Nat.pow_succ];cases d <;> simp <;> rw [Nat.mul_add,<-Nat.mul_assoc,Nat.mul_comm 2 (2 ^ a.length)] <;> omega
def oH (b:List Bool) (a:Nat):aX (kK b) a=(b.take a).count true:=by
 induction a with
 | zero=>simp [nZ]
 | succ a e=>
   rw [dA,e,jC,zAv,zCc];cases c:b[a]? with
   | none=>simp [zAb,c]
   | some d=>cases d <;> simp [zAb,c]
def aAb (b:List Bool) (a:Bool):kK (b++ [a])=kK b+if a then 2 ^ b.length else 0:=by
 rw [aCw];cases a <;> simp [kK]
def aHR (a b:Nat) (c:a < 2 ^ b):a||| 2 ^ b=a+2 ^ b:=by
 have:=Nat.two_pow_add_eq_or_of_lt c 1;rw [zBl] at this;rw [Nat.or_comm,<-this,zCt]
def w0 (a:List Bool):Nat:=kK (a.take 64)
def w1 (a:List Bool):Nat:=kK (a.drop 64)
def mO (a:List Bool):w0 a < 18446744073709551616:=by
 have c:=uW (a.take 64);have b:(a.take 64).length<=64:=by rw [zAj];omega
 have d:=zBp (n:=2) dC b;unfold w0;omega
def mJ {l:List Bool} (d:l.length<=128):w1 l < 18446744073709551616:=by
 have b:=uW (l.drop 64);have a:(l.drop 64).length<=64:=by rw [zAw];omega
 have c:=zBp (n:=2) dC a;unfold w1;omega
def aJ5 {a:List Bool} (b:a.length<=128):aX (w0 a) 64+aX (w1 a) 64=a.count true:=by
 unfold w0 w1;rw [oH,oH,List.take_take,Nat.min_self,zAg (l:=a.drop 64) (by rw [zAw];omega),<-zCc,zAu]
def aJ4 {b:List Bool} {a:Nat} (g:b.length<=128) (f:a<=b.length):aX (w0 b) (min a 64)+aX (w1 b) (min (a - 64) 64)=(b.take a).count true:=by
 unfold w0 w1;rw [oH,oH,List.take_take];rcases zBe a 64 with e | e
 · have c:min (min a 64) 64=a:=oM;have d:min (a - 64) 64=0:=oM;rw [c,d,List.take_zero,List.count_nil,zBq]
 have c:min (min a 64) 64=64:=oM;have d:min (a - 64) 64=a - 64:=oM;rw [c,d,<-zCc];congr 1;rw [<-zAu 64 (b.take a),List.take_take,List.drop_take];congr 2;omega
def zJ (a:List Bool) (b:Bool) (c:a.length < 64):w0 (a++ [b])=w0 a+(if b then 2 ^ a.length else 0)/\w1 (a++ [b])=w1 a:=by
 unfold w0 w1;rw [zAg (by simp;omega),zAg oM,List.drop_of_length_le (by simp;omega),List.drop_of_length_le oM];exact ⟨aAb a b,rfl⟩
def zK (a:List Bool) (b:Bool) (c:64<=a.length):w0 (a++ [b])=w0 a/\w1 (a++ [b])=w1 a+(if b then 2 ^(a.length - 64) else 0):=by
 unfold w0 w1;rw [List.take_append_of_le_length c,List.drop_append_of_le_length c,aAb,zAw];exact ⟨rfl,rfl⟩
def aGW (a:List Bool) (b:a.length < 64):w0 a < 2 ^ a.length:=by
 unfold w0;rw [zAg oM];exact uW a
def aGU (a:List Bool):w1 a < 2 ^(a.length - 64):=by
 unfold w1;have:=uW (a.drop 64);rwa [zAw] at this
end
section
open Go.RowKit Go
section
variable {P : Program} {ops : Array Oper} {Q : Exit -> Act -> World -> Prop} {md : Region.Mode}
def qC (o:List Nat) {C:World->Prop} {S:Nat->World->World->Prop} {U:Nat->World->Prop} {V:Nat->Value->World->Prop} (f:Act) {k:World} (x:ops.toList.filterMap (·.dst)=o) (A:jW md ops f.tmps.size=true) (t:C k) (v:∀a,U a k) (s:∀c b d,C b->S c b d->C d) (u:∀a c b d,a≠c->upB md ops ops.size c a=false->U a b->C b->S c b d->U a d) (D:∀a c e b d,a≠c->aGx md ops a c=false->V a e b->C b->S c b d->V a e d) (E:∀c j,ops[c]?=some j->dH P ops Q md C S U V f c j) (y:∀(i:Operand->Value) b,C b->(∀a g,((ops[a]?).bind (·.dst))=some g->V a (i (.tmp g)) b)->(∀a,a < ops.size->∃e,V a e b)->Q .normal (cX i o f) b):
 wpAny P md ops Q ops.size (Array.replicate ops.size false) f k:=by
 exact kL (n:=ops.size) (C:=fun _=>C) (S:=fun c _=>S c) (U:=U) (V:=fun a _=>V a) (by rw [vE];exact x) nL A (fun r a p m=>absurd m oM) t v (fun c _ _ _ _ b d _ _ _ _ l r=>s c b d l r) (fun a c _ _ b d _=>u a c b d) (fun _ _ _ _ _ _ _ _ l=>l) (fun a c _ _ _ e _ b d _ z _ _ p m=>D a c e b d p (aEs z m)) (fun c j _ B=>E c j B) fun i b H w F G=>nC rfl (y i b w (fun a g q=>F a g (aEe q) q) G)
end
def uH (e:Nat->Prop) (a b:Nat) (c d:World):Prop:=(b=a->Keep e c d)/\(b≠a->Grow c d)
def iT {a:Nat->Prop} {b e:Nat} {f g:World} (c:uH a b e f g):Keep a f g:=by
 by_cases d:e=b;exact c.1 d;exact Keep.of_below (c.2 d)
def aO {d:Nat->Prop} {e f:Nat} {b c:World} (a:Grow b c):uH d e f b c:=⟨fun _=>Keep.of_below a,fun _=>a⟩
def kq {e:Nat->Prop} {f j:Nat} {b:World} {d Q:Value->World->Prop} (i:∀a c,uH e f j b c->d a c->Q a c) {a:Value} (g:d a b):Q a b:=i a b (aO bR) g
def bJ {a:Nat->Prop} {b:Nat} {c d:World} (f:Keep a c d):uH a b b c d:=⟨fun _=>f,fun e=>absurd rfl e⟩
def yO (e:Nat->Prop) (a:Value->World->Prop):Prop:=∀b c d,a b c->Keep e c d->a b d
def nS (a:Nat->Prop) (b:Value):yO a (is b):=fun _ _ _ c _=>c
def vG {i:Nat->Prop} {c:List (Value->World->Prop)} (k:∀g∈c,yO i g):∀b d e f,Vs c b d e->Keep i e f->Vs c b d f:=by
 intro b d e f a l;unfold Vs at a⊢;rw [zAb] at a⊢;cases j:c[b]? with
 | none=>simp
 | some g=>rw [j] at a;simp only [Option.getD_some] at a⊢;exact k g (zAd j) d e f a l
def VsJ (b:Nat) (d:Value->World->Prop) (c:List (Value->World->Prop)) (a:Nat):Value->World->Prop:=if a=b then d else Vs c a
def cT {P:Program} {ops:Array Oper} {Q:Exit->Act->World->Prop} {md:Region.Mode} (o:List Nat) (g:Nat->Prop) (c:Nat) (w:List Nat) {pre:World->Prop} {pJ:Value->World->Prop} (m:List (Value->World->Prop)) (j:Act) {i:World} (B:ops.toList.filterMap (·.dst)=o) (D:jW md ops j.tmps.size=true) (G:(w.all fun b=>b==c||upB md ops ops.size c b)=true) (F:pre i) (E:∀a d,pre a->Keep g i a->Grow a d->pre d) (A:Stb pJ) (H:∀K∈m,yO g K) (I:∀e v,ops[e]?=some v->dH P ops Q md (Keep g i) (uH g c) (fun b a=>w.contains b=true->pre a) (VsJ c pJ m) j e v) (C:∀(r:Operand->Value) a,Keep g i a->(∀b q,((ops[b]?).bind (·.dst))=some q->VsJ c pJ m b (r (.tmp q)) a)->(∀b,b < ops.size->∃n,VsJ c pJ m b n a)->Q .normal (cX r o j) a):
 wpAny P md ops Q ops.size (Array.replicate ops.size false) j i:=by
 refine qC o j B D (Keep.refl _ _) (fun _ _=>F) (fun e a d y f=>y.trans (iT f)) (fun b e a d p J k z f t=>?_) (fun b e n a d p _ l _ f=>?_) I C;by_cases u:e=c;exfalso;subst u;have s:=zBf.1 G b (by simpa using t);simp only [J,Bool.or_false,zCr] at s;exact p s;exact E a d (k t) z (f.2 u);unfold VsJ at l⊢;by_cases k:b=c;rw [zBx k] at l⊢;exact A n a d l (f.2 fun x=>p (k.trans x.symm));rw [zBw k] at l⊢;exact vG H b n a d l (iT f)
def sZ {d:Nat->Prop} {m n:World} {a k j:Nat} {f:TypeId} {l:Value} {o:List Value} (g:m.ownsRow a f k l j o) (v:Keep d m n) (u:∀e,d e->e < a):n.ownsRow a f k l j o:=by
 refine ⟨g.1,?_⟩;rcases g.2 with c |⟨b,p,q,c,s,i,t⟩;exact .inl c;exact .inr ⟨b,p,q,c,s,(v.block b (lt_of_block i) (fun r=>by have:=u b r;omega)).trans i,t⟩
def Made.keepF {d:Nat->Prop} {m n:World} {b l k f:Nat} {g:TypeId} {c:Option Addr} {o:List Value} (a:Made m b g l c k f o) (j:Keep d m n) (i:∀e,d e->e < b):Made n b g l c k f o:=
 ⟨sZ a.own j i,Rd.of_own (sZ a.own j i),a.cap,a.max⟩
def Made.mono {g:World} {B B' f e c:Nat} {d:TypeId} {b:Option Addr} {i:List Value} (a:Made g B d f b e c i) (j:B'<=B):Made g B' d f b e c i:=⟨cD a.own j,a.rd,a.cap,a.max⟩
def aH4 (d:Nat) (e:TypeId) (f c:Nat) (j:List Value):Value->World->Prop:=fun g i=>∃a b,g=.slice a c b/\Made i d e f a c b j
def aFI {b:Nat->Prop} {a:Nat} (j:∀c,b c->c < a) (f:TypeId) (m l:Nat) (n:List Value):yO b (aH4 a f m l n):=fun _ _ _ ⟨d,e,g,i⟩ k=>⟨d,e,g,i.keepF k j⟩
def vY (b:Nat->Prop) (d:TypeId) (c:Array Value) (e:Nat->Value):Value->World->Prop:=fun f g=>∃a,f=e a/\Bk g a d c/\¬b a
def pG (a:Nat->Prop) (d:TypeId) (c:Array Value) (j:Nat->Value):yO a (vY a d c j):=fun _ _ _ ⟨e,f,g,b⟩ i=>⟨e,f,i.bk g b,b⟩
def dJ:Value->World->Prop:=fun _ _=>True
def kQ (a:Nat->Prop):yO a dJ:=fun _ _ _ _ _=>trivial
end
section
open Go.RowKit
def gP (a:List Bool):Array Value:=#[.int .i64 (a.length:Int),.int .u64 ((w0 a:Nat):Int),.int .u64 ((w1 a:Nat):Int)]
def aF2 (a:Nat) {b:Nat} (e:a < 18446744073709551616) (f:b < 18446744073709551616):bits .or .u64 (a:Int) (b:Int)=((a||| b:Nat):Int):=
 (bits_nat .u64 64 dC (fun g c d=>by rw [IntKind.wrap_u64];omega) a b oM oM).2
def mH {a4:Option Addr} {n:Nat} (ad:Nat) {a5:Nat} {l:List Bool} {k:World} (t:Rd k a5 1 a4 n (l.map Value.bool)) (aq:a5<=k.heap.size) (aI:n<=128):
 Calls prog 279 #[.slice a4 n ad] k fun I aa=>I=.returned (.tuple #[k.heap.size,.int .i64 0])/\Bk aa k.heap.size 297 (gP l)/\Below k.heap.size k aa:=by
 have aw:l.length=n:=by simpa using t.1
 obtain ⟨T,ac⟩:=hqq2 aw (t.mono aq);have aE:¬((n:Int) > 128):=oM;obtain ⟨c,Z⟩:=eqx k.heap.size;go_enter func279,ntmps279;go_wp2;have ar:=(Below.refl k.heap.size k).alloc nL (.cells #[(n:Int),.int .u64 0,.int .u64 0] 297);have a7:=Bk.new k 297 #[(n:Int),.int .u64 0,.int .u64 0];rw [Z] at a7
 try rw [Z]
 go_loopw [16] (fun a2 wr=>∃b:Nat,b<=n/\a2=.int .i64 b/\Bk wr c 297 #[(n:Int),.int .u64 ((w0 (l.take b):Nat):Int),.int .u64 ((w1 (l.take b):Nat):Int)]/\Below k.heap.size k wr) (fun a2 _=>n -(intOf a2).toNat)
 case atStart=>exact ⟨0,zAp _,rfl,a7,ar⟩
 case round=>
  obtain ⟨b,aG,rfl,A,v⟩:=hrel;have a9:=v.size;by_cases a8:b < n
  · have av:b < l.length:=(by rw [T.out];exact a8);obtain ⟨R,O⟩:∃R,l[b]?=some R:=⟨l[b],zAa av⟩;obtain ⟨m,aJ,aK,rfl,aC,a1,aD⟩:=(ac.out.below v).get a8;rw [zAf,O] at a1;simp at a1;subst a1;have B:l.take (b+1)=l.take b++ [R]:=(by rw [zAv,O];rfl);have E:(l.take b).length=b:=(by rw [zAj];omega);cases R with
    | false=>
      have r:w0 (l.take (b+1))=w0 (l.take b)/\w1 (l.take (b+1))=w1 (l.take b):=(by rw [B];rcases zBe b 64 with i | i;have:=zJ (l.take b) false oM;simpa using this;have:=zK (l.take b) false oM;simpa using this);obtain ⟨a6,ab⟩:=hqq2 r A;go_wp2;go_roundw
      case rel=>exact ⟨b+1,by omega,by go_num,by rw [a6.out.1,a6.out.2];exact ab.out,v⟩
      case measure=>simp [intOf];omega
    | true=>
      rcases zBe b 64 with ap | ap
      · obtain ⟨f,t⟩:∃f:Nat,f=b:=⟨_,rfl⟩;have ay:IntKind.i64.wrap ((b:Int)/ 64)=0:=(by rw [IntKind.wrap_i64];omega);have ax:(b:Int).tmod 64=(f:Int):=(by rw [Int.tmod_eq_emod_of_nonneg oM];omega);have az:IntKind.u64.wrap (f:Int)=(f:Int):=(by rw [IntKind.wrap_u64];omega);have a0:f < 64:=oM;obtain ⟨P,j⟩:∃P:Nat,P=2 ^ f:=⟨_,rfl⟩;have V:P < 18446744073709551616:=(by have:=Nat.pow_lt_pow_right (a:=2) dC a0;omega);obtain ⟨g,u⟩:∃g:Nat,g=w0 (l.take b):=⟨_,rfl⟩;obtain ⟨q,z⟩:∃q:Nat,q=w1 (l.take b):=⟨_,rfl⟩;obtain ⟨o,y⟩:∃o:Nat,o=g+P:=⟨_,rfl⟩;have K:g < P:=(by have:=aGW (l.take b) oM;rw [E] at this;rw [u,j,t];exact this);have r:=zJ (l.take b) true oM;rw [<-B,<-u,<-z,E] at r;have L:w0 (l.take (b+1))=o/\w1 (l.take (b+1))=q:=⟨by rw [r.1,y,j,t];rfl,r.2⟩;have M:bits .or .u64 (g:Int) (P:Int)=(o:Int):=(by rw [aF2 g oM V,j,aHR g f (by rw [<-j];exact K),y,j]);have S:=lhd M;have J:IntKind.u64.wrap ((2:Int)^ f)=(P:Int):=(by rw [j,IntKind.wrap_u64];have I:((2:Int)^ f)=((2 ^ f:Nat):Int):=(by push_cast;rfl);rw [I,<-j];omega);obtain ⟨G,H⟩:=hqq2 J L;rw [<-u,<-z] at A;clear M J r L u z y j K B E O t;go_wp2;refine wp_region_any kR ?_;refine cT (pJ:=(fun _ w1=>Bk w1 c 297 #[(n:Int),.int .u64 (o:Int),.int .u64 (q:Int)])) [22,23,24,25,26,27,28,29,30,31,32,33,34,35,36] (fun m=>m=c) 15 [6,15] [is (.pointer (some ⟨c,0,none⟩)),is (b:Int),is (.int .i64 0),is (.pointer (some ⟨c,0,none⟩)),is (.pointer (some ⟨c,1,none⟩)),is (.pointer (some ⟨c,1,none⟩)),is (.int .u64 (g:Int)),is (b:Int),is (f:Int),is (.int .u64 (f:Int)),is (.int .u64 (P:Int)),is (.int .u64 (o:Int)),is (.pointer (some ⟨c,0,none⟩)),is (.pointer (some ⟨c,1,none⟩)),is (.pointer (some ⟨c,1,none⟩)),dJ] _ rfl kR kR (A) (fun w1 aB i _ Y=>Bk.below i Y i.lt) (fun _ _ _ i b=>Bk.below i b i.lt) tA1 ?_ ?_
        · refine aV ?_;refine pH3 4 (.pointer (some ⟨c,0,none⟩)) ?_;refine pH3 5 (.int .i64 (b:Int)) ?_;refine sC3 (fun _ _ _ _ _ _ _ d _ _ _ e=>?_) ?_
          · have ae:_=_:=d 1 23 kR rfl;go_simp;exact e _ _ (aO bR) (dV (by first | rfl | omega))
          refine pV3 0 22 ?_;refine pV3 3 25 ?_;refine pW3 4 26 2 24 ?_;refine sC3 (fun _ C _ x _ _ _ d _ _ _ e=>?_) ?_
          · have s:=x rfl;have af:_=_:=d 5 27 kR rfl;have U:C.cell? ⟨c,1,none⟩=some (.int .u64 (g:Int)):=(s.cell 1).trans rfl;go_simp;exact kq e rfl
          refine pH3 5 (.int .i64 (b:Int)) ?_;refine sC3 (fun _ _ _ _ _ _ _ d _ _ _ e=>?_) ?_
          · have ah:_=_:=d 7 29 kR rfl;go_simp;exact e _ _ (aO bR) (dV (by first | rfl | omega))
          refine sC3 (fun _ _ _ _ _ _ _ d _ _ _ e=>?_) ?_
          · have ai:_=_:=d 8 30 kR rfl;go_simp;exact e _ _ (aO bR) (jB (by first | rfl | omega))
          refine sC3 (fun _ _ _ _ _ _ _ d _ _ _ e=>?_) ?_
          · have aj:_=_:=d 9 31 kR rfl;go_simp;exact e _ _ (aO bR) (jB (by first | exact G.out | simpa using G.out))
          refine sC3 (fun _ _ _ _ _ _ _ d _ _ _ e=>?_) ?_
          · have ag:_=_:=d 6 28 kR rfl;have ak:_=_:=d 10 32 kR rfl;go_simp;exact e _ _ (aO bR) (jB S.out)
          refine pV3 0 22 ?_;refine pV3 12 34 ?_;refine pW3 13 35 2 24 ?_;refine sC3 (fun _ C _ x _ _ _ d _ _ _ e=>?_) ?_
          · have s:=x rfl;have am:_=_:=d 14 36 kR rfl;have al:_=_:=d 11 33 kR rfl;have U:C.cell? ⟨c,1,none⟩=some (.int .u64 (g:Int)):=(s.cell 1).trans rfl;have ao:=s.frozen 1;go_simp;exact e (.bool true) _ (bJ (Keep.setCell (F:=fun m=>m=c) (Keep.refl _ _) (p:=⟨c,1,none⟩) (.inl rfl) _)) (s.set 1 _)
          exact aH
        · intro an D w d W;replace w:Keep (fun m=>m=c) wr D:=kD w;obtain ⟨aA,N⟩:∃a3,(fun _ w1=>Bk w1 c 297 #[(n:Int),.int .u64 (o:Int),.int .u64 (q:Int)]) a3 D:=W 15 dC;simp only [zqq];have X:Below k.heap.size k D:=v.trans (w.to_below a9 (fun m v i=>absurd (show m=c from i) oM));go_wp2;go_roundw
          case rel=>exact ⟨b+1,by omega,by go_num,by rw [H.out.1,H.out.2];exact N,X⟩
          case measure=>simp [intOf];omega
      · obtain ⟨f,t⟩:∃f:Nat,f=b - 64:=⟨_,rfl⟩;have ay:IntKind.i64.wrap ((b:Int)/ 64)=1:=(by rw [IntKind.wrap_i64];omega);have ax:(b:Int).tmod 64=(f:Int):=(by rw [Int.tmod_eq_emod_of_nonneg oM];omega);have az:IntKind.u64.wrap (f:Int)=(f:Int):=(by rw [IntKind.wrap_u64];omega);have a0:f < 64:=oM;obtain ⟨P,j⟩:∃P:Nat,P=2 ^ f:=⟨_,rfl⟩;have V:P < 18446744073709551616:=(by have:=Nat.pow_lt_pow_right (a:=2) dC a0;omega);obtain ⟨g,u⟩:∃g:Nat,g=w1 (l.take b):=⟨_,rfl⟩;obtain ⟨q,z⟩:∃q:Nat,q=w0 (l.take b):=⟨_,rfl⟩;obtain ⟨o,y⟩:∃o:Nat,o=g+P:=⟨_,rfl⟩;have K:g < P:=(by have:=aGU (l.take b);rw [E] at this;rw [u,j,t];exact this);have r:=zK (l.take b) true oM;rw [<-B,<-u,<-z,E] at r;have L:w1 (l.take (b+1))=o/\w0 (l.take (b+1))=q:=⟨by rw [r.2,y,j,t];rfl,r.1⟩;have M:bits .or .u64 (g:Int) (P:Int)=(o:Int):=(by rw [aF2 g oM V,j,aHR g f (by rw [<-j];exact K),y,j]);have S:=lhd M;have J:IntKind.u64.wrap ((2:Int)^ f)=(P:Int):=(by rw [j,IntKind.wrap_u64];have I:((2:Int)^ f)=((2 ^ f:Nat):Int):=(by push_cast;rfl);rw [I,<-j];omega);obtain ⟨G,H⟩:=hqq2 J L;rw [<-u,<-z] at A;clear M J r L u z y j K B E O t;go_wp2;refine wp_region_any kR ?_;refine cT (pJ:=(fun _ w1=>Bk w1 c 297 #[(n:Int),.int .u64 (q:Int),.int .u64 (o:Int)])) [22,23,24,25,26,27,28,29,30,31,32,33,34,35,36] (fun m=>m=c) 15 [6,15] [is (.pointer (some ⟨c,0,none⟩)),is (b:Int),is (.int .i64 1),is (.pointer (some ⟨c,0,none⟩)),is (.pointer (some ⟨c,1,none⟩)),is (.pointer (some ⟨c,2,none⟩)),is (.int .u64 (g:Int)),is (b:Int),is (f:Int),is (.int .u64 (f:Int)),is (.int .u64 (P:Int)),is (.int .u64 (o:Int)),is (.pointer (some ⟨c,0,none⟩)),is (.pointer (some ⟨c,1,none⟩)),is (.pointer (some ⟨c,2,none⟩)),dJ] _ rfl kR kR (A) (fun w1 aB i _ Y=>Bk.below i Y i.lt) (fun _ _ _ i b=>Bk.below i b i.lt) tA1 ?_ ?_
        · refine aV ?_;refine pH3 4 (.pointer (some ⟨c,0,none⟩)) ?_;refine pH3 5 (.int .i64 (b:Int)) ?_;refine sC3 (fun _ _ _ _ _ _ _ d _ _ _ e=>?_) ?_
          · have ae:_=_:=d 1 23 kR rfl;go_simp;exact e _ _ (aO bR) (dV (by first | rfl | omega))
          refine pV3 0 22 ?_;refine pV3 3 25 ?_;refine pW3 4 26 2 24 ?_;refine sC3 (fun _ C _ x _ _ _ d _ _ _ e=>?_) ?_
          · have s:=x rfl;have af:_=_:=d 5 27 kR rfl;have U:C.cell? ⟨c,2,none⟩=some (.int .u64 (g:Int)):=(s.cell 2).trans rfl;go_simp;exact kq e rfl
          refine pH3 5 (.int .i64 (b:Int)) ?_;refine sC3 (fun _ _ _ _ _ _ _ d _ _ _ e=>?_) ?_
          · have ah:_=_:=d 7 29 kR rfl;go_simp;exact e _ _ (aO bR) (dV (by first | rfl | omega))
          refine sC3 (fun _ _ _ _ _ _ _ d _ _ _ e=>?_) ?_
          · have ai:_=_:=d 8 30 kR rfl;go_simp;exact e _ _ (aO bR) (jB (by first | rfl | omega))
          refine sC3 (fun _ _ _ _ _ _ _ d _ _ _ e=>?_) ?_
          · have aj:_=_:=d 9 31 kR rfl;go_simp;exact e _ _ (aO bR) (jB (by first | exact G.out | simpa using G.out))
          refine sC3 (fun _ _ _ _ _ _ _ d _ _ _ e=>?_) ?_
          · have ag:_=_:=d 6 28 kR rfl;have ak:_=_:=d 10 32 kR rfl;go_simp;exact e _ _ (aO bR) (jB S.out)
          refine pV3 0 22 ?_;refine pV3 12 34 ?_;refine pW3 13 35 2 24 ?_;refine sC3 (fun _ C _ x _ _ _ d _ _ _ e=>?_) ?_
          · have s:=x rfl;have am:_=_:=d 14 36 kR rfl;have al:_=_:=d 11 33 kR rfl;have U:C.cell? ⟨c,2,none⟩=some (.int .u64 (g:Int)):=(s.cell 2).trans rfl;have ao:=s.frozen 2;go_simp;exact e (.bool true) _ (bJ (Keep.setCell (F:=fun m=>m=c) (Keep.refl _ _) (p:=⟨c,2,none⟩) (.inl rfl) _)) (s.set 2 _)
          exact aH
        · intro an D w d W;replace w:Keep (fun m=>m=c) wr D:=kD w;obtain ⟨aA,N⟩:∃a3,(fun _ w1=>Bk w1 c 297 #[(n:Int),.int .u64 (q:Int),.int .u64 (o:Int)]) a3 D:=W 15 dC;simp only [zqq];have X:Below k.heap.size k D:=v.trans (w.to_below a9 (fun m v i=>absurd (show m=c from i) oM));go_wp2;go_roundw
          case rel=>exact ⟨b+1,by omega,by go_num,by rw [H.out.1,H.out.2];exact N,X⟩
          case measure=>simp [intOf];omega
  · have aF:n<=b:=oM;have B:l.take b=l:=zAg (by have:=T.out;omega);rw [B] at A;have au:Bk wr c 297 (gP l):=(by unfold gP;rw [T.out];exact A);go_wp2;go_ret2;rw [Z] at v⊢;exact ⟨rfl,au,v⟩
def sN {gb:Nat} {l:List Bool} {w:World} (b:Bk w gb 297 (gP l)):
 Calls prog 297 #[gb] w fun a c=>a=.returned (.int .i64 (l.length:Int))/\w=c:=by
 have d:w.cell? gb=some (.int .i64 (l.length:Int)):=(b.cell 0).trans rfl;go_enter func297,ntmps297;go_wp2;go_ret;exact ⟨rfl,rfl⟩
def aKC {d:World} {a:Nat} {c:List Bool} (e:Bk d a 297 (gP c)):Rd d d.heap.size 1 (some ⟨a,1,none⟩) 2 ([w0 c,w1 c].map uvn):=by
 refine ⟨rfl,fun _=>⟨a,1,rfl,e.lt,fun f g b=>?_⟩⟩;rw [e.cell];rcases f with _ | _ | f;exact b;exact b
 · simp at b
def zH {gb:Nat} {l:List Bool} {w:World} (e:Bk w gb 297 (gP l)) (b:l.length<=128):
 Calls prog 303 #[gb] w fun a d=>a=.returned (.int .i64 ((l.count true:Nat):Int))/\w=d:=by
 have f:(([w0 l,w1 l].map fun g=>aX g 64).sum)=l.count true:=by rw [<-aJ5 b];simp
 go_enter func303,ntmps303;go_wp2_with fail;refine (gU _ 2 2 _ [w0 l,w1 l] _ (aKC e) (by intro i c;simp at c;rcases c with rfl | rfl;exact mO l;exact mJ b) oM).mono ?_;rintro a d ⟨rfl,rfl⟩;rw [f];go_wp2;go_ret;exact ⟨rfl,rfl⟩
def ix0 (a c:Int) (b:World):(Instr.index 295 (.agg #[.int .u64 a,.int .u64 c]) (.int .i64 0)).run prog b=.ok (.int .u64 a) b:=by kernel_rfl
def ix1 (c a:Int) (b:World):(Instr.index 295 (.agg #[.int .u64 c,.int .u64 a]) (.int .i64 1)).run prog b=.ok (.int .u64 a) b:=by kernel_rfl
def zG {f:Nat} {b:List Bool} {k:Nat} {c:World} (a:Bk c f 297 (gP b)) (u:b.length<=128) (B:k<=b.length):
 Calls prog 284 #[f,(k:Int)] c fun j q=>j=.returned (.int .i64 (((b.take k).count true:Nat):Int))/\Below c.heap.size c q:=by
 have t:=aJ4 u B;obtain ⟨i,D⟩:=eqx b.length;obtain ⟨e,n⟩:=eqx (w0 b);obtain ⟨g,o⟩:=eqx (w1 b);have z:e < 18446744073709551616:=by rw [<-n];exact mO b
 have b1:g < 18446744073709551616:=by rw [<-o];exact mJ u
 have F:vU e (k:Int)=aX e (min k 64):=by unfold vU;rw [zBr]
 have G:vU g ((k:Int) - 64)=aX g (min (k - 64) 64):=by unfold vU;congr 2;omega
 rw [n,o] at t;have N:=oB e (min k 64);have O:=oB g (min (k - 64) 64);have A:c.cell? f=some (.int .i64 (i:Int)):=by rw [<-D];exact (a.cell 0).trans rfl
 have r:c.cell? ⟨f,1,none⟩=some (.int .u64 (e:Int)):=by rw [<-n];exact (a.cell 1).trans rfl
 have s:c.cell? ⟨f,2,none⟩=some (.int .u64 (g:Int)):=by rw [<-o];exact (a.cell 2).trans rfl
 have C:=a.lt;have K:k<=i:=oM;have L:i<=128:=oM;have R:max (k:Int) 0=(k:Int):=oM;have S:min (k:Int) (i:Int)=(k:Int):=oM;obtain ⟨w,x⟩:=hqq2 t F;have k0:=ix0;have M:=ix1;have y:=lhd G;go_enter func284,ntmps284;go_wp2;go_loopw [5,14] (fun H p wr=>∃d:Nat,d<=2/\p=.int .i64 d/\H=.int .i64 (((if d=0 then 0 else if d=1 then aX e (min k 64) else (b.take k).count true):Nat):Int)/\Below c.heap.size c wr) (fun _ p _=>2 -(intOf p).toNat)
 case atStart=>exact ⟨0,by omega,rfl,rfl,Below.refl _ _⟩
 case round=>
  obtain ⟨d,J,rfl,rfl,a⟩:=hrel;have v:=a.size;have I:wr.cell? f=some (.int .i64 (i:Int)):=(a.cell C).trans A;rcases d with _ | _ | _ | d
  · clear r s;simp only [if_true];go_wp2_with fail;refine (sP (k:Int) z oM _).mono ?_;rintro j q ⟨rfl,m⟩;rw [x.out];have l:=a.trans (m.mono v);go_wp2;go_roundw
    case rel=>exact ⟨1,by omega,by go_num,by simp,l⟩
    case measure=>simp [intOf]
  · clear r s;simp only [zBi,Nat.one_ne_zero,if_false,if_true];go_wp2_with fail;refine (sP ((k:Int) - 64) b1 oM _).mono ?_;rintro j q ⟨rfl,m⟩;rw [y.out];have l:=a.trans (m.mono v);have E:(((aX e (min k 64):Nat):Int)+((aX g (min (k - 64) 64):Nat):Int))=(((b.take k).count true:Nat):Int):=(by rw [<-w.out];push_cast;rfl);go_wp2;go_roundw
    case rel=>exact ⟨2,by omega,by go_num,by first | rfl |(simp;done)| exact dV (by simpa using E),l⟩
    case measure=>simp [intOf]
  · simp only [show ¬(0+1+1=0) by omega,show ¬(0+1+1=1) by omega,if_false];go_wp2;go_ret;exact ⟨rfl,a⟩
  omega
end
end Go.Proofs.YtcoooelofcejbaaGreatDoor
