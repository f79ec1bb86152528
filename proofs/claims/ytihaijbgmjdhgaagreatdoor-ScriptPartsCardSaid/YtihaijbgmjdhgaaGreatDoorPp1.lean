/- Lemmas of the walk. Conditions: each its own. -/
import Derived.Test.YtihaijbgmjdhgaaGreatDoorPp0
import Derived.Test.YtihaijbgmjdhgaaGreatDoorProg
set_option linter.all false
set_option maxRecDepth 100000
set_option maxHeartbeats 4000000
namespace Go.Proofs.YtihaijbgmjdhgaaGreatDoor
open Tryz
section
open Go.RowKit
theorem zG (a b:Nat) (e:a < 18446744073709551616) (f:b < 18446744073709551616):bits .and .u64 (a:Int) (b:Int)=((a&&& b:Nat):Int):=
 (bits_nat .u64 64 dC (fun g c d=>by rw [IntKind.wrap_u64];omega) a b oM oM).1
theorem rZ (a b d c:Nat) (j:a < 18446744073709551616) (i:d < 18446744073709551616) (g:2 ^ b=c):bits .and .u64 ((a:Int)/(c:Int)) (d:Int)=((a >>> b&&& d:Nat):Int):=by
 have e:((a:Int)/(c:Int))=((a >>> b:Nat):Int):=by rw [Nat.shiftRight_eq_div_pow,g];push_cast;rfl
 have f:a >>> b < 18446744073709551616:=by rw [Nat.shiftRight_eq_div_pow];exact Nat.lt_of_le_of_lt (Nat.div_le_self _ _) j
 rw [e,zG _ _ f i]
theorem qE (a:Nat) (v:a < 18446744073709551616) (E:World):
 Calls prog 345 #[.int .u64 (a:Int)] E fun I L=>I=.returned (.int .i64 ((bN a 64:Nat):Int))/\E=L:=by
 obtain ⟨q,l⟩:∃c,c=a >>> 1&&& 6148914691236517205:=⟨_,rfl⟩;obtain ⟨r,m⟩:∃c,c=a&&& 6148914691236517205:=⟨_,rfl⟩;have b1:q<=6148914691236517205:=by rw [l];exact Nat.and_le_right
 have b2:r<=6148914691236517205:=by rw [m];exact Nat.and_le_right
 obtain ⟨d,y⟩:∃b,b=q+r:=⟨_,rfl⟩;obtain ⟨s,n⟩:∃c,c=d >>> 2&&& 3689348814741910323:=⟨_,rfl⟩;obtain ⟨t,o⟩:∃c,c=d&&& 3689348814741910323:=⟨_,rfl⟩;have F:s<=3689348814741910323:=by rw [n];exact Nat.and_le_right
 have G:t<=3689348814741910323:=by rw [o];exact Nat.and_le_right
 obtain ⟨e,z⟩:∃b,b=s+t:=⟨_,rfl⟩;obtain ⟨j,u⟩:∃K,K=e >>> 4+e:=⟨_,rfl⟩;have J:j=e / 16+e:=by rw [u,Nat.shiftRight_eq_div_pow]
 obtain ⟨f,p⟩:∃b,b=j&&& 1085102592571150095:=⟨_,rfl⟩;have H:f<=1085102592571150095:=by rw [p];exact Nat.and_le_right
 obtain ⟨g,A⟩:∃b,b=f+f / 256:=⟨_,rfl⟩;obtain ⟨i,B⟩:∃b,b=g+g / 65536:=⟨_,rfl⟩;obtain ⟨k,C⟩:∃b,b=i+i / 4294967296:=⟨_,rfl⟩;have x:f=tY a:=by rw [p,u,z,n,o,y,l,m];rfl
 obtain ⟨w,O⟩:=aD8 a v g i k (by rw [<-x];exact A) B C;have Q:bits .and .u64 ((a:Int)/ 2) 6148914691236517205=(q:Int):=by rw [l];exact rZ a 1 6148914691236517205 2 v oM dC
 have T:bits .and .u64 (a:Int) 6148914691236517205=(r:Int):=by rw [m];exact zG a 6148914691236517205 v oM
 have U:IntKind.u64.wrap ((q:Int)+(r:Int))=(d:Int):=by rw [IntKind.wrap_u64];omega
 have V:bits .and .u64 ((d:Int)/ 4) 3689348814741910323=(s:Int):=by rw [n];exact rZ d 2 3689348814741910323 4 oM oM dC
 have W:bits .and .u64 (d:Int) 3689348814741910323=(t:Int):=by rw [o];exact zG d 3689348814741910323 oM oM
 have X:IntKind.u64.wrap ((s:Int)+(t:Int))=(e:Int):=by rw [IntKind.wrap_u64];omega
 have Y:IntKind.u64.wrap ((e:Int)/ 16+(e:Int))=(j:Int):=by rw [IntKind.wrap_u64];omega
 have Z:bits .and .u64 (j:Int) 1085102592571150095=(f:Int):=by rw [p];exact zG j 1085102592571150095 oM oM
 have a0:IntKind.u64.wrap ((f:Int)+(f:Int)/ 256)=(g:Int):=by rw [IntKind.wrap_u64];omega
 have R:IntKind.u64.wrap ((g:Int)+(g:Int)/ 65536)=(i:Int):=by rw [IntKind.wrap_u64];omega
 have S:IntKind.u64.wrap ((i:Int)+(i:Int)/ 4294967296)=(k:Int):=by rw [IntKind.wrap_u64];omega
 have P:k < 9223372036854775808:=oM;have D:bits .and .i64 (k:Int) 127=((bN a 64:Nat):Int):=by have:=bits_mask .i64 63 dC (fun a1 M N=>by rw [IntKind.wrap_i64];omega) 7 dC (k:Int) oM oM;rw [show ((2:Int)^ 7 - 1)=127 by decide,show ((2:Int)^ 7)=128 by decide] at this;rw [this,<-w];omega
 clear l m y n o z u J p A B C x w b1 b2 F G H;go_enter func345,ntmps345;go_wp2;go_ret;exact ⟨dR (by first | exact D | simp [D]),rfl⟩
theorem aBN (d a c:Nat) (f:a<=c):bN (d % 2 ^ a) c=bN d a:=by
 obtain ⟨b,rfl⟩:∃b,c=a+b:=⟨c - a,by omega⟩;rw [uS,uR];have:(d % 2 ^ a)>>> a=0:=by rw [Nat.shiftRight_eq_div_pow];exact Nat.div_eq_of_lt (Nat.mod_lt _ (Nat.two_pow_pos a))
 rw [this];have e:∀b,bN 0 b=0:=fun b=>by unfold bN;simp
 rw [e];rfl
def xF (b:Nat) (a:Int):Nat:=b % 2 ^(min a.toNat 64)
def uvn (a:Nat):Value:=.int .u64 (a:Int)
theorem aC2 (d:Nat) (c:Int) (y:d < 18446744073709551616) (v:-9223372036854775808<=c/\c<=9223372036854775807) (g:World):
 Calls prog 346 #[.int .u64 (d:Int),.int .i64 c] g fun i o=>i=.returned (.int .u64 ((xF d c:Nat):Int))/\g=o:=by
 unfold xF;by_cases f:c<=0
 · have j:d % 2 ^(min c.toNat 64)=0:=(by rw [show c.toNat=0 by omega];simp [Nat.mod_one]);rw [j];go_enter func346,ntmps346;go_wp2;go_ret;exact ⟨rfl,rfl⟩
 · by_cases m:c>=64
   · have k:d % 2 ^(min c.toNat 64)=d:=(by rw [show min c.toNat 64=64 by omega];exact zBs oM);rw [k];have s:¬(c<=0):=f;go_enter func346,ntmps346;go_wp2;go_ret;exact ⟨rfl,rfl⟩
   · obtain ⟨b,rfl⟩:∃b:Nat,c=(b:Int):=⟨c.toNat,by omega⟩;have n:b < 64:=oM;have p:decide ((b:Int)<=0)=false:=(by simp;omega);have q:decide ((b:Int)>=64)=false:=(by simp;omega);have l:min (b:Int).toNat 64=b:=oM;rw [l];have w:2 ^ b < 18446744073709551616:=(by have:=Nat.pow_lt_pow_right (a:=2) dC n;omega);have e:((2:Int)^ b)=((2 ^ b:Nat):Int):=(by push_cast;rfl);have x:=Nat.two_pow_pos b;have r:IntKind.u64.wrap ((2:Int)^ b)=(2:Int)^ b:=(by rw [e,IntKind.wrap_u64];omega);have t:IntKind.u64.wrap ((2:Int)^ b - 1)=(2:Int)^ b - 1:=(by rw [e,IntKind.wrap_u64];omega);have u:bits .and .u64 (d:Int) ((2:Int)^ b - 1)=(d:Int)% 2 ^ b:=bits_mask .u64 64 dC (fun z f m=>by rw [IntKind.wrap_u64];omega) b oM (d:Int) oM oM;clear e;go_enter func346,ntmps346;go_wp2;go_ret;exact ⟨by first | rfl | simp,rfl⟩
theorem rO (k:Option Addr) (d B w:Nat) (c:List Nat) (f:World) (g:Rd f w 1 k d (c.map uvn)) (p:∀G∈c,G < 18446744073709551616) (N:d<=1048576):
 Calls prog 325 #[.slice k d B] f fun m v=>m=.returned (.int .i64 (((c.map fun b=>bN b 64).sum:Nat):Int))/\f=v:=by
 have r:c.length=d:=by simpa using g.1
 obtain ⟨A,y,l⟩:=hqq3 g p r;have n:∀a,((c.take a).map fun b=>bN b 64).sum<=a*64:=fun a=>by
  induction a with
  | zero=>simp
  | succ a F=>
    by_cases o:a < c.length;rw [List.take_succ_eq_append_getElem o,zAy,List.sum_append];have:=kZ c[a] 64;simp only [List.map_cons,List.map_nil,List.sum_cons,List.sum_nil];omega;rw [zAg oM];rw [zAg oM] at F;omega
 have x:=lhd n;clear g p r n;go_enter func325,ntmps325;go_wp2;go_loopw [3,8] (fun H j wr=>∃a:Nat,a<=d/\j=.int .i64 a/\H=.int .i64 ((((c.take a).map fun b=>bN b 64).sum:Nat):Int)/\f=wr) (fun _ j _=>d -(intOf j).toNat)
 case atStart=>exact ⟨0,zAp _,rfl,by simp,rfl⟩
 case round=>
  obtain ⟨a,o,rfl,rfl,rfl⟩:=hrel;by_cases s:a < d
  · have D:a < c.length:=(by rw [l.out];exact s);obtain ⟨b,e⟩:∃b,c[a]?=some b:=⟨c[a],zAa D⟩;obtain ⟨I,O,P,rfl,L,i,C⟩:=A.out.get s;rw [zAf,e] at i;simp at i;subst i;unfold uvn at C;have E:=y.out b (zAd e);have t:((c.take (a+1)).map fun b=>bN b 64).sum=((c.take a).map fun b=>bN b 64).sum+bN b 64:=(by rw [zAu,e];simp);have K:=x.out a;have J:=kZ b 64;generalize ((c.take a).map fun b=>bN b 64).sum=q at*
    have z:=lhd t;clear t e;go_wp2_with fail;refine (qE b E _).mono ?_;rintro m v ⟨rfl,rfl⟩;go_wp2;go_roundw
    case rel=>exact ⟨a+1,by omega,by go_num,by rw [z.out];go_num,trivial⟩
    case measure=>simp [intOf];omega
  · have M:d<=a:=oM;have u:c.take a=c:=zAg (by have:=l.out;omega);rw [u];clear u;go_wp2;go_ret;exact ⟨rfl,rfl⟩
def oO (b:Nat) (a:Int):Nat:=bN b (min a.toNat 64)
theorem mC (a:Nat) (b:Int) (f:a < 18446744073709551616) (i:-9223372036854775808<=b/\b<=9223372036854775807) (d:World):
 Calls prog 336 #[.int .u64 (a:Int),.int .i64 b] d fun c e=>c=.returned (.int .i64 ((oO a b:Nat):Int))/\Below d.heap.size d e:=by
 have j:xF a b < 18446744073709551616:=by unfold xF;exact Nat.lt_of_le_of_lt (Nat.mod_le _ _) f
 have g:bN (xF a b) 64=oO a b:=aBN a _ 64 (Nat.min_le_right _ _);go_enter func336,ntmps336;go_wp2_with fail;refine (aC2 a b f i _).mono ?_;rintro c e ⟨rfl,rfl⟩;go_wp2_with fail;refine (rO _ 1 1 _ [xF a b] _ (Rd.made _ _ 1 1 _ rfl) (by simpa using j) oM).mono ?_;rintro c e ⟨rfl,rfl⟩;have k:(([xF a b].map fun a=>bN a 64).sum)=oO a b:=by simp [g]
 rw [k];go_wp2_with fail;go_ret;exact ⟨rfl,bR.alloc nL _⟩
end
section
def gL:List Bool->Nat
 | []=>0
 | b::l=>(if b then 1 else 0)+2*gL l
theorem nU (a:List Bool):gL a < 2 ^ a.length:=by
 induction a with
 | nil=>simp [gL]
 | cons b a c=>
   simp only [gL,zCd,Nat.pow_succ];cases b <;> simp <;> omega
theorem iV (b:List Bool) (a:Nat):(gL b).testBit a=b.getD a false:=by
 induction b generalizing a with
 | nil=>simp [gL]
 | cons c b e=>
   cases a with
   | zero=>
     simp only [gL,List.getD_cons_zero,Nat.testBit_zero];cases c <;> simp <;> omega
   | succ a=>
     have d:((if c then 1 else 0)+2*gL b)/ 2=gL b:=(by cases c <;> simp <;> omega);simp only [gL,List.getD_cons_succ,Nat.testBit_succ,d];exact e a
theorem vD (a b:List Bool):gL (a++b)=gL a+2 ^ a.length*gL b:=by
 induction a with
 | nil=>simp [gL]
 | cons d a c=>
   simp only [List.cons_append,gL,c,zCd,Nat.pow_succ];cases d <;> simp <;> rw [Nat.mul_add,<-Nat.mul_assoc,Nat.mul_comm 2 (2 ^ a.length)] <;> omega
theorem jN (b:List Bool) (a:Nat):bN (gL b) a=(b.take a).count true:=by
 induction a with
 | zero=>simp [qV]
 | succ a e=>
   rw [jK,e,iV,zAu,zCa];cases c:b[a]? with
   | none=>simp [zAb,c]
   | some d=>cases d <;> simp [zAb,c]
theorem rB (b:List Bool) (a:Bool):gL (b++ [a])=gL b+if a then 2 ^ b.length else 0:=by
 rw [vD];cases a <;> simp [gL]
theorem aBM (a b:Nat) (c:a < 2 ^ b):a||| 2 ^ b=a+2 ^ b:=by
 have:=Nat.two_pow_add_eq_or_of_lt c 1;rw [zBk] at this;rw [Nat.or_comm,<-this,zCm]
def w0 (a:List Bool):Nat:=gL (a.take 64)
def w1 (a:List Bool):Nat:=gL (a.drop 64)
theorem aBg (a:List Bool):w0 a < 18446744073709551616:=by
 have c:=nU (a.take 64);have b:(a.take 64).length<=64:=by rw [zAj];omega
 have d:=zBn (n:=2) dC b;unfold w0;omega
theorem yV (a:List Bool) (e:a.length<=128):w1 a < 18446744073709551616:=by
 have c:=nU (a.drop 64);have b:(a.drop 64).length<=64:=by rw [zAv];omega
 have d:=zBn (n:=2) dC b;unfold w1;omega
theorem aDq (a:List Bool) (b:a.length<=128):bN (w0 a) 64+bN (w1 a) 64=a.count true:=by
 unfold w0 w1;rw [jN,jN,List.take_take,Nat.min_self,zAg (l:=a.drop 64) (by rw [zAv];omega),<-zCa,zAt]
theorem aDp (b:List Bool) (a:Nat) (g:b.length<=128) (f:a<=b.length):bN (w0 b) (min a 64)+bN (w1 b) (min (a - 64) 64)=(b.take a).count true:=by
 unfold w0 w1;rw [jN,jN,List.take_take];rcases zBd a 64 with e | e
 · have c:min (min a 64) 64=a:=oM;have d:min (a - 64) 64=0:=oM;rw [c,d,List.take_zero,List.count_nil,zBo]
 have c:min (min a 64) 64=64:=oM;have d:min (a - 64) 64=a - 64:=oM;rw [c,d,<-zCa];congr 1;rw [<-zAt 64 (b.take a),List.take_take,List.drop_take];congr 2;omega
theorem qM (a:List Bool) (b:Bool) (c:a.length < 64):w0 (a++ [b])=w0 a+(if b then 2 ^ a.length else 0)/\w1 (a++ [b])=w1 a:=by
 unfold w0 w1;rw [zAg (by simp;omega),zAg oM,List.drop_of_length_le (by simp;omega),List.drop_of_length_le oM];exact ⟨rB a b,rfl⟩
theorem qN (a:List Bool) (b:Bool) (c:64<=a.length):w0 (a++ [b])=w0 a/\w1 (a++ [b])=w1 a+(if b then 2 ^(a.length - 64) else 0):=by
 unfold w0 w1;rw [List.take_append_of_le_length c,List.drop_append_of_le_length c,rB,zAv];exact ⟨rfl,rfl⟩
theorem aBf (a:List Bool) (b:a.length < 64):w0 a < 2 ^ a.length:=by
 unfold w0;rw [zAg oM];exact nU a
theorem aBe (a:List Bool):w1 a < 2 ^(a.length - 64):=by
 unfold w1;have:=nU (a.drop 64);rwa [zAv] at this
end
section
open Go.RowKit
def jQ (a:List Bool):Array Value:=#[.int .i64 (a.length:Int),.int .u64 ((w0 a:Nat):Int),.int .u64 ((w1 a:Nat):Int)]
theorem aDZ (a b:Nat) (e:a < 18446744073709551616) (f:b < 18446744073709551616):bits .or .u64 (a:Int) (b:Int)=((a||| b:Nat):Int):=
 (bits_nat .u64 64 dC (fun g c d=>by rw [IntKind.wrap_u64];omega) a b oM oM).2
theorem tO (a3:Option Addr) (k ad a4:Nat) (e:List Bool) (n:World) (u:Rd n a4 1 a3 k (e.map Value.bool)) (aq:a4<=n.heap.size) (aJ:k<=128):
 Calls prog 322 #[.slice a3 k ad] n fun J aa=>J=.returned (.tuple #[n.heap.size,.int .i64 0])/\Bk aa n.heap.size 320 (jQ e)/\Below n.heap.size n aa:=by
 have a7:e.length=k:=by simpa using u.1
 obtain ⟨S,ac⟩:=hqq2 a7 (u.mono aq);have aF:¬((k:Int) > 128):=oM;clear u a7;obtain ⟨c,X⟩:=eqx n.heap.size;go_enter func322,ntmps322;go_wp2;have ar:=(Below.refl n.heap.size n).alloc nL (.cells #[(k:Int),.int .u64 0,.int .u64 0] 320);have a6:=Bk.new n 320 #[(k:Int),.int .u64 0,.int .u64 0];rw [X] at a6
 try rw [X]
 go_loopw [16] (fun a0 wr=>∃b:Nat,b<=k/\a0=.int .i64 b/\Bk wr c 320 #[(k:Int),.int .u64 ((w0 (e.take b):Nat):Int),.int .u64 ((w1 (e.take b):Nat):Int)]/\Below n.heap.size n wr) (fun a0 _=>k -(intOf a0).toNat)
 case atStart=>exact ⟨0,zAp _,rfl,a6,ar⟩
 case round=>
  obtain ⟨b,aI,rfl,x,w⟩:=hrel;have a9:=w.size;by_cases a8:b < k
  · have av:b < e.length:=(by rw [S.out];exact a8);obtain ⟨Q,P⟩:∃Q,e[b]?=some Q:=⟨e[b],zAa av⟩;obtain ⟨o,aK,aL,rfl,aD,Z,aE⟩:=(ac.out.below w).get a8;rw [zAf,P] at Z;simp at Z;subst Z;have y:e.take (b+1)=e.take b++ [Q]:=(by rw [zAu,P];rfl);have D:(e.take b).length=b:=(by rw [zAj];omega);cases Q with
    | false=>
      have s:w0 (e.take (b+1))=w0 (e.take b)/\w1 (e.take (b+1))=w1 (e.take b):=(by rw [y];rcases zBd b 64 with l | l;have:=qM (e.take b) false oM;simpa using this;have:=qN (e.take b) false oM;simpa using this);obtain ⟨a5,ab⟩:=hqq2 s x;clear s y D P x;go_wp2;go_roundw
      case rel=>exact ⟨b+1,by omega,by go_num,by rw [a5.out.1,a5.out.2];exact ab.out,w⟩
      case measure=>simp [intOf];omega
    | true=>
      rcases zBd b 64 with ap | ap
      · obtain ⟨g,u⟩:∃g:Nat,g=b:=⟨_,rfl⟩;have ax:IntKind.i64.wrap ((b:Int)/ 64)=0:=(by rw [IntKind.wrap_i64];omega);have aw:(b:Int).tmod 64=(g:Int):=(by rw [Int.tmod_eq_emod_of_nonneg oM];omega);have ay:IntKind.u64.wrap (g:Int)=(g:Int):=(by rw [IntKind.wrap_u64];omega);have Y:g < 64:=oM;obtain ⟨j,m⟩:∃j:Nat,j=2 ^ g:=⟨_,rfl⟩;have U:j < 18446744073709551616:=(by have:=Nat.pow_lt_pow_right (a:=2) dC Y;omega);obtain ⟨i,v⟩:∃i:Nat,i=w0 (e.take b):=⟨_,rfl⟩;obtain ⟨r,C⟩:∃r:Nat,r=w1 (e.take b):=⟨_,rfl⟩;obtain ⟨q,B⟩:∃q:Nat,q=i+j:=⟨_,rfl⟩;have L:i < j:=(by have:=aBf (e.take b) oM;rw [D] at this;rw [v,m,u];exact this);have s:=qM (e.take b) true oM;rw [<-y,<-v,<-C,D] at s;have N:w0 (e.take (b+1))=q/\w1 (e.take (b+1))=r:=⟨by rw [s.1,B,m,u];rfl,s.2⟩;have O:bits .or .u64 (i:Int) (j:Int)=(q:Int):=(by rw [aDZ i j oM U,m,aBM i g (by rw [<-m];exact L),B,m]);have R:=lhd O;have K:IntKind.u64.wrap ((2:Int)^ g)=(j:Int):=(by rw [m,IntKind.wrap_u64];have J:((2:Int)^ g)=((2 ^ g:Nat):Int):=(by push_cast;rfl);rw [J,<-m];omega);obtain ⟨H,I⟩:=hqq2 K N;rw [<-v,<-C] at x;clear O K s N v C B m L y D P u;go_wp2;refine wp_region_any kR ?_;refine bB [22,23,24,25,26,27,28,29,30,31,32,33,34,35,36] (fun o=>o=c) 15 [6,15] (fun w1=>Bk w1 c 320 #[(k:Int),.int .u64 (i:Int),.int .u64 (r:Int)]) (fun _ w1=>Bk w1 c 320 #[(k:Int),.int .u64 (q:Int),.int .u64 (r:Int)]) [is (.pointer (some ⟨c,0,none⟩)),is (b:Int),is (.int .i64 0),is (.pointer (some ⟨c,0,none⟩)),is (.pointer (some ⟨c,1,none⟩)),is (.pointer (some ⟨c,1,none⟩)),is (.int .u64 (i:Int)),is (b:Int),is (g:Int),is (.int .u64 (g:Int)),is (.int .u64 (j:Int)),is (.int .u64 (q:Int)),is (.pointer (some ⟨c,0,none⟩)),is (.pointer (some ⟨c,1,none⟩)),is (.pointer (some ⟨c,1,none⟩)),dJ] _ _ rfl kR kR (x) (fun w1 aB l _ W=>Bk.below l W l.lt) (fun _ _ _ l b=>Bk.below l b l.lt) tA1 ?_ ?_
        · refine aG ?_;refine pH3 4 (.pointer (some ⟨c,0,none⟩)) ?_;refine pH3 5 (.int .i64 (b:Int)) ?_;refine sC3 (fun _ _ _ _ _ _ _ d _ _ _ f=>?_) ?_
          · have ae:_=_:=d 1 23 kR rfl;go_simp;exact f _ _ (aA bR) (cS (by first | rfl | omega))
          refine pV3 0 22 ?_;refine pV3 3 25 ?_;refine pW3 4 26 2 24 ?_;refine sC3 (fun _ E _ A _ _ _ d _ _ _ f=>?_) ?_
          · have t:=A rfl;have af:_=_:=d 5 27 kR rfl;have T:E.cell? ⟨c,1,none⟩=some (.int .u64 (i:Int)):=(t.cell 1).trans rfl;go_simp;exact kq f rfl
          refine pH3 5 (.int .i64 (b:Int)) ?_;refine sC3 (fun _ _ _ _ _ _ _ d _ _ _ f=>?_) ?_
          · have ah:_=_:=d 7 29 kR rfl;go_simp;exact f _ _ (aA bR) (cS (by first | rfl | omega))
          refine sC3 (fun _ _ _ _ _ _ _ d _ _ _ f=>?_) ?_
          · have ai:_=_:=d 8 30 kR rfl;go_simp;exact f _ _ (aA bR) (cG (by first | rfl | omega))
          refine sC3 (fun _ _ _ _ _ _ _ d _ _ _ f=>?_) ?_
          · have aj:_=_:=d 9 31 kR rfl;go_simp;exact f _ _ (aA bR) (cG (by first | exact H.out | simpa using H.out))
          refine sC3 (fun _ _ _ _ _ _ _ d _ _ _ f=>?_) ?_
          · have ag:_=_:=d 6 28 kR rfl;have ak:_=_:=d 10 32 kR rfl;go_simp;exact f _ _ (aA bR) (cG R.out)
          refine pV3 0 22 ?_;refine pV3 12 34 ?_;refine pW3 13 35 2 24 ?_;refine sC3 (fun _ E _ A _ _ _ d _ _ _ f=>?_) ?_
          · have t:=A rfl;have am:_=_:=d 14 36 kR rfl;have al:_=_:=d 11 33 kR rfl;have T:E.cell? ⟨c,1,none⟩=some (.int .u64 (i:Int)):=(t.cell 1).trans rfl;have ao:=t.frozen 1;go_simp;exact f (.bool true) _ (aV (Keep.setCell (F:=fun o=>o=c) (Keep.refl _ _) (p:=⟨c,1,none⟩) (.inl rfl) _)) (t.set 1 _)
          exact aC
        · intro an G z d M;replace z:Keep (fun o=>o=c) wr G:=kD z;obtain ⟨az,a1⟩:∃a2,(fun _ w1=>Bk w1 c 320 #[(k:Int),.int .u64 (q:Int),.int .u64 (r:Int)]) a2 G:=M 15 dC;simp only [zqq];clear d M;have V:Below n.heap.size n G:=w.trans (z.to_below a9 (fun o w l=>absurd (show o=c from l) oM));go_wp2;go_roundw
          case rel=>exact ⟨b+1,by omega,by go_num,by rw [I.out.1,I.out.2];exact a1,V⟩
          case measure=>simp [intOf];omega
      · obtain ⟨g,u⟩:∃g:Nat,g=b - 64:=⟨_,rfl⟩;have ax:IntKind.i64.wrap ((b:Int)/ 64)=1:=(by rw [IntKind.wrap_i64];omega);have aw:(b:Int).tmod 64=(g:Int):=(by rw [Int.tmod_eq_emod_of_nonneg oM];omega);have ay:IntKind.u64.wrap (g:Int)=(g:Int):=(by rw [IntKind.wrap_u64];omega);have Y:g < 64:=oM;obtain ⟨j,m⟩:∃j:Nat,j=2 ^ g:=⟨_,rfl⟩;have U:j < 18446744073709551616:=(by have:=Nat.pow_lt_pow_right (a:=2) dC Y;omega);obtain ⟨i,v⟩:∃i:Nat,i=w1 (e.take b):=⟨_,rfl⟩;obtain ⟨r,C⟩:∃r:Nat,r=w0 (e.take b):=⟨_,rfl⟩;obtain ⟨q,B⟩:∃q:Nat,q=i+j:=⟨_,rfl⟩;have L:i < j:=(by have:=aBe (e.take b);rw [D] at this;rw [v,m,u];exact this);have s:=qN (e.take b) true oM;rw [<-y,<-v,<-C,D] at s;have N:w1 (e.take (b+1))=q/\w0 (e.take (b+1))=r:=⟨by rw [s.2,B,m,u];rfl,s.1⟩;have O:bits .or .u64 (i:Int) (j:Int)=(q:Int):=(by rw [aDZ i j oM U,m,aBM i g (by rw [<-m];exact L),B,m]);have R:=lhd O;have K:IntKind.u64.wrap ((2:Int)^ g)=(j:Int):=(by rw [m,IntKind.wrap_u64];have J:((2:Int)^ g)=((2 ^ g:Nat):Int):=(by push_cast;rfl);rw [J,<-m];omega);obtain ⟨H,I⟩:=hqq2 K N;rw [<-v,<-C] at x;clear O K s N v C B m L y D P u;go_wp2;refine wp_region_any kR ?_;refine bB [22,23,24,25,26,27,28,29,30,31,32,33,34,35,36] (fun o=>o=c) 15 [6,15] (fun w1=>Bk w1 c 320 #[(k:Int),.int .u64 (r:Int),.int .u64 (i:Int)]) (fun _ w1=>Bk w1 c 320 #[(k:Int),.int .u64 (r:Int),.int .u64 (q:Int)]) [is (.pointer (some ⟨c,0,none⟩)),is (b:Int),is (.int .i64 1),is (.pointer (some ⟨c,0,none⟩)),is (.pointer (some ⟨c,1,none⟩)),is (.pointer (some ⟨c,2,none⟩)),is (.int .u64 (i:Int)),is (b:Int),is (g:Int),is (.int .u64 (g:Int)),is (.int .u64 (j:Int)),is (.int .u64 (q:Int)),is (.pointer (some ⟨c,0,none⟩)),is (.pointer (some ⟨c,1,none⟩)),is (.pointer (some ⟨c,2,none⟩)),dJ] _ _ rfl kR kR (x) (fun w1 aB l _ W=>Bk.below l W l.lt) (fun _ _ _ l b=>Bk.below l b l.lt) tA1 ?_ ?_
        · refine aG ?_;refine pH3 4 (.pointer (some ⟨c,0,none⟩)) ?_;refine pH3 5 (.int .i64 (b:Int)) ?_;refine sC3 (fun _ _ _ _ _ _ _ d _ _ _ f=>?_) ?_
          · have ae:_=_:=d 1 23 kR rfl;go_simp;exact f _ _ (aA bR) (cS (by first | rfl | omega))
          refine pV3 0 22 ?_;refine pV3 3 25 ?_;refine pW3 4 26 2 24 ?_;refine sC3 (fun _ E _ A _ _ _ d _ _ _ f=>?_) ?_
          · have t:=A rfl;have af:_=_:=d 5 27 kR rfl;have T:E.cell? ⟨c,2,none⟩=some (.int .u64 (i:Int)):=(t.cell 2).trans rfl;go_simp;exact kq f rfl
          refine pH3 5 (.int .i64 (b:Int)) ?_;refine sC3 (fun _ _ _ _ _ _ _ d _ _ _ f=>?_) ?_
          · have ah:_=_:=d 7 29 kR rfl;go_simp;exact f _ _ (aA bR) (cS (by first | rfl | omega))
          refine sC3 (fun _ _ _ _ _ _ _ d _ _ _ f=>?_) ?_
          · have ai:_=_:=d 8 30 kR rfl;go_simp;exact f _ _ (aA bR) (cG (by first | rfl | omega))
          refine sC3 (fun _ _ _ _ _ _ _ d _ _ _ f=>?_) ?_
          · have aj:_=_:=d 9 31 kR rfl;go_simp;exact f _ _ (aA bR) (cG (by first | exact H.out | simpa using H.out))
          refine sC3 (fun _ _ _ _ _ _ _ d _ _ _ f=>?_) ?_
          · have ag:_=_:=d 6 28 kR rfl;have ak:_=_:=d 10 32 kR rfl;go_simp;exact f _ _ (aA bR) (cG R.out)
          refine pV3 0 22 ?_;refine pV3 12 34 ?_;refine pW3 13 35 2 24 ?_;refine sC3 (fun _ E _ A _ _ _ d _ _ _ f=>?_) ?_
          · have t:=A rfl;have am:_=_:=d 14 36 kR rfl;have al:_=_:=d 11 33 kR rfl;have T:E.cell? ⟨c,2,none⟩=some (.int .u64 (i:Int)):=(t.cell 2).trans rfl;have ao:=t.frozen 2;go_simp;exact f (.bool true) _ (aV (Keep.setCell (F:=fun o=>o=c) (Keep.refl _ _) (p:=⟨c,2,none⟩) (.inl rfl) _)) (t.set 2 _)
          exact aC
        · intro an G z d M;replace z:Keep (fun o=>o=c) wr G:=kD z;obtain ⟨az,a1⟩:∃a2,(fun _ w1=>Bk w1 c 320 #[(k:Int),.int .u64 (r:Int),.int .u64 (q:Int)]) a2 G:=M 15 dC;simp only [zqq];clear d M;have V:Below n.heap.size n G:=w.trans (z.to_below a9 (fun o w l=>absurd (show o=c from l) oM));go_wp2;go_roundw
          case rel=>exact ⟨b+1,by omega,by go_num,by rw [I.out.1,I.out.2];exact a1,V⟩
          case measure=>simp [intOf];omega
  · have aH:k<=b:=oM;have y:e.take b=e:=zAg (by have:=S.out;omega);rw [y] at x;have au:Bk wr c 320 (jQ e):=(by unfold jQ;rw [S.out];exact x);clear y x;go_wp2;go_ret2;rw [X] at w⊢;exact ⟨rfl,au,w⟩
theorem tP (b:Nat) (c:List Bool) (a:World) (e:Bk a b 320 (jQ c)):
 Calls prog 342 #[b] a fun d f=>d=.returned (.int .i64 (c.length:Int))/\a=f:=by
 have g:a.cell? b=some (.int .i64 (c.length:Int)):=(e.cell 0).trans rfl;go_enter func342,ntmps342;go_wp2;go_ret;exact ⟨rfl,rfl⟩
theorem aDJ {d:World} {a:Nat} {c:List Bool} (e:Bk d a 320 (jQ c)):Rd d d.heap.size 1 (some ⟨a,1,none⟩) 2 ([w0 c,w1 c].map uvn):=by
 refine ⟨rfl,fun _=>⟨a,1,rfl,e.lt,fun f g b=>?_⟩⟩;rw [e.cell];rcases f with _ | _ | f;exact b;exact b
 · simp at b
theorem qJ (d:Nat) (a:List Bool) (b:World) (i:Bk b d 320 (jQ a)) (e:a.length<=128):
 Calls prog 348 #[d] b fun c g=>c=.returned (.int .i64 ((a.count true:Nat):Int))/\b=g:=by
 have j:(([w0 a,w1 a].map fun k=>bN k 64).sum)=a.count true:=by rw [<-aDq a e];simp
 go_enter func348,ntmps348;go_wp2_with fail;refine (rO _ 2 2 _ [w0 a,w1 a] _ (aDJ i) (by intro l f;simp at f;rcases f with rfl | rfl;exact aBg a;exact yV a e) oM).mono ?_;rintro c g ⟨rfl,rfl⟩;rw [j];go_wp2;go_ret;exact ⟨rfl,rfl⟩
theorem ix0 (a c:Int) (b:World):(Instr.index 318 (.agg #[.int .u64 a,.int .u64 c]) (.int .i64 0)).run prog b=.ok (.int .u64 a) b:=by kernel_rfl
theorem ix1 (c a:Int) (b:World):(Instr.index 318 (.agg #[.int .u64 c,.int .u64 a]) (.int .i64 1)).run prog b=.ok (.int .u64 a) b:=by kernel_rfl
theorem qI (i:Nat) (b:List Bool) (a:Nat) (d:World) (c:Bk d i 320 (jQ b)) (v:b.length<=128) (u:a<=b.length):
 Calls prog 319 #[i,(a:Int)] d fun m r=>m=.returned (.int .i64 (((b.take a).count true:Nat):Int))/\Below d.heap.size d r:=by
 have p:=aDp b a v u;obtain ⟨j,w⟩:=eqx b.length;obtain ⟨e,k⟩:=eqx (w0 b);obtain ⟨g,l⟩:=eqx (w1 b);have D:e < 18446744073709551616:=by rw [<-k];exact aBg b
 have b1:g < 18446744073709551616:=by rw [<-l];exact yV b v
 have y:oO e (a:Int)=bN e (min a 64):=by unfold oO;rw [zBp]
 have z:oO g ((a:Int) - 64)=bN g (min (a - 64) 64):=by unfold oO;congr 2;omega
 rw [k,l] at p;have N:=kZ e (min a 64);have O:=kZ g (min (a - 64) 64);have E:d.cell? i=some (.int .i64 (j:Int)):=by rw [<-w];exact (c.cell 0).trans rfl
 have s:d.cell? ⟨i,1,none⟩=some (.int .u64 (e:Int)):=by rw [<-k];exact (c.cell 1).trans rfl
 have t:d.cell? ⟨i,2,none⟩=some (.int .u64 (g:Int)):=by rw [<-l];exact (c.cell 2).trans rfl
 have F:=c.lt;have K:a<=j:=oM;have L:j<=128:=oM;have P:max (a:Int) 0=(a:Int):=oM;have Q:min (a:Int) (j:Int)=(a:Int):=oM;obtain ⟨A,B⟩:=hqq2 p y;have k0:=ix0;have M:=ix1;have C:=lhd z;clear c p k l w u y z;go_enter func319,ntmps319;go_wp2_with fail;go_loopw [5,14] (fun H q wr=>∃f:Nat,f<=2/\q=.int .i64 f/\H=.int .i64 (((if f=0 then 0 else if f=1 then bN e (min a 64) else (b.take a).count true):Nat):Int)/\Below d.heap.size d wr) (fun _ q _=>2 -(intOf q).toNat)
 case atStart=>exact ⟨0,by omega,rfl,rfl,Below.refl _ _⟩
 case round=>
  obtain ⟨f,J,rfl,rfl,c⟩:=hrel;have x:=c.size;have I:wr.cell? i=some (.int .i64 (j:Int)):=(c.cell F).trans E;rcases f with _ | _ | _ | f
  · clear s t;simp only [if_true];go_wp2_with fail;refine (mC e (a:Int) D oM _).mono ?_;rintro m r ⟨rfl,o⟩;rw [B.out];have n:=c.trans (o.mono x);go_wp2_with fail;go_roundw
    case rel=>exact ⟨1,by omega,by go_num,by simp,n⟩
    case measure=>simp [intOf]
  · clear s t;simp only [zBh,Nat.one_ne_zero,if_false,if_true];go_wp2_with fail;refine (mC g ((a:Int) - 64) b1 oM _).mono ?_;rintro m r ⟨rfl,o⟩;rw [C.out];have n:=c.trans (o.mono x);have G:(((bN e (min a 64):Nat):Int)+((bN g (min (a - 64) 64):Nat):Int))=(((b.take a).count true:Nat):Int):=(by rw [<-A.out];push_cast;rfl);go_wp2_with fail;go_roundw
    case rel=>exact ⟨2,by omega,by go_num,by first | rfl |(simp;done)| exact cS (by simpa using G),n⟩
    case measure=>simp [intOf]
  · simp only [show ¬(0+1+1=0) by omega,show ¬(0+1+1=1) by omega,if_false];go_wp2;go_ret;exact ⟨rfl,c⟩
  omega
def qY (b c:Int) (a:Nat):List Value:= [.int .i64 (-1),.int .i64 (-1),.int .i64 0,.int .i64 b,.int .i64 c,.int .i64 0,.int .i64 0,.pointer (some a)]
def RowS (a d b c:Nat) (f g:Int) (e:World):Prop:=e.ownsRow a 291 8 (.slice (some d) 1 b) 1 (qY f g c)
theorem RowS.grow {b e c d:Nat} {g i:Int} {a f:World} (j:RowS b e c d g i a) (k:Below a.heap.size a f):RowS b e c d g i f:=aH j k
theorem RowS.at3 {c a d e:Nat} {j g:Int} {f:World} (i:RowS c a d e j g f) (b:Int):RowS c a d e b g (f.setCell ⟨a,3,none⟩ (.int .i64 b)):=(World.ownsRow.stored i 3 (.int .i64 b)).1
theorem RowS.at4 {c a d e:Nat} {g j:Int} {f:World} (i:RowS c a d e g j f) (b:Int):RowS c a d e g b (f.setCell ⟨a,4,none⟩ (.int .i64 b)):=(World.ownsRow.stored i 4 (.int .i64 b)).1
theorem RowS.lt {b a d e:Nat} {g i:Int} {c:World} (f:RowS b a d e g i c):b<=a/\a < c.heap.size:=World.ownsRow.lt f a rfl
theorem RowS.bk_ne {d b e i a:Nat} {m n:Int} {c:World} {t:TypeId} {f:Array Value} (j:RowS d b e i m n c) (k:Bk c a t f) (l:291≠t):a≠b:=fun g=>aK j k l (by rw [g];rfl)
def aDT (c:World) (b a e f:Nat) (w1:World):Prop:=Keep (fun d=>d=a) c w1/\∃g i,RowS b a e f g i w1
def aDS (c a d e:Nat) (k l:Int) (f:Nat) (w1 b:World):Prop:=
 (f=14->Keep (fun j=>j=a) w1 b/\∀g i,RowS c a d e g i w1->RowS c a d e k i b)/\(f=17->Keep (fun j=>j=a) w1 b/\∀g i,RowS c a d e g i w1->RowS c a d e g l b)/\(f≠14->f≠17->Grow w1 b)
theorem bM {d j g i:Nat} {e f:Int} {b:Nat} {w1 c:World} (l:b≠14) (m:b≠17) (k:Grow w1 c):aDS d j g i e f b w1 c:=⟨fun a=>absurd a l,fun a=>absurd a m,fun _ _=>k⟩
theorem aAv {n w1 r:World} {a d b c g:Nat} {s t:Int} (u:aDT n a d b c w1) (i:aDS a d b c s t g w1 r):aDT n a d b c r:=by
 obtain ⟨e,l,m,f⟩:=u;by_cases o:g=14;obtain ⟨j,k⟩:=i.1 o;exact ⟨e.trans j,_,_,k l m f⟩;by_cases p:g=17;obtain ⟨j,k⟩:=i.2.1 p;exact ⟨e.trans j,_,_,k l m f⟩;have q:=i.2.2 o p;exact ⟨e.trans (Keep.of_below q),l,m,f.grow q⟩
def N3 (a e c d:Nat) (b:Int):Value->World->Prop:=fun _ w1=>∃f,RowS a e c d b f w1
def N4 (a e c d:Nat) (b:Int):Value->World->Prop:=fun _ w1=>∃f,RowS a e c d f b w1
theorem aBX (E Z a m l q:Nat) (a5 x:Int) (s:List Bool) (u:World) (Q:Bk u E 288 #[Z,.slice (some a) 1 m,.int .i64 a5,.int .i64 x]) {a8 a9:Int} (B:RowS q a m l a8 a9 u) (J:Bk u l 320 (jQ s)) (a2:s.length<=128):
 Calls prog 338 #[E,.int .i64 0] u fun g S=>g=.returned (.tuple #[])/\Keep (fun y=>y=a) u S/\RowS q a m l (s.length:Int) ((s.count true:Nat):Int) S:=by
 obtain ⟨r,G⟩:∃r:Int,(s.length:Int)=r:=⟨_,rfl⟩;obtain ⟨o,H⟩:∃o:Int,((s.count true:Nat):Int)=o:=⟨_,rfl⟩;rw [G,H];obtain ⟨V,W⟩:=hqq2 G H;have ab:u.cell? ⟨E,1,none⟩=some (.slice (some a) 1 m):=(Q.cell 1).trans rfl;have ac:u.cell? ⟨a,7,none⟩=some (.pointer (some l)):=(World.ownsRow.cellAt B 7 oM).trans rfl;have aB:=B.lt;have O:=B.bk_ne J dC;obtain ⟨N,X⟩:=hqq2 J B;clear G H Q J B;go_enter func338,ntmps338;go_wp2;refine wp_region_any kR ?_;refine kN [18,19,20,21,22,23,24,25,26,27,28,29,30,31,32,33] (aDT u q a m l) (aDS q a m l r o) (fun _ _=>True) (Vs [is a,is a,is a,is a,is (.pointer (some ⟨a,7,none⟩)),is l,is (.int .i64 r),is a,is a,is (.pointer (some ⟨a,7,none⟩)),is l,is (.int .i64 o),is a,is (.pointer (some ⟨a,3,none⟩)),N3 q a m l r,is a,is (.pointer (some ⟨a,4,none⟩)),N4 q a m l o]) _ _ rfl kR ⟨⟨rfl,rfl,rfl,zAs _,fun _ _ _=>rfl⟩,_,_,X.out⟩ (fun _=>trivial) (fun L w1 a6 z w=>aAv z w) (fun _ _ _ _ _ _ _ _ _=>trivial) ?_ ?_ ?_;intro R L x w1 a6 P aA f az w;rcases R with _ | _ | _ | _ | _ | _ | _ | _ | _ | _ | _ | _ | _ | _ | _ | _ | _ | _ | R;exact f;exact f;exact f;exact f;exact f;exact f;exact f;exact f;exact f;exact f;exact f;exact f;exact f;exact f;obtain ⟨U,f⟩:=f;by_cases C:L=17;exact ⟨_,(w.2.1 C).2 _ _ f⟩;exact ⟨_,RowS.grow f (w.2.2 (fun g=>P g.symm) C)⟩;exact f;exact f;obtain ⟨T,f⟩:=f;by_cases A:L=14;exact ⟨_,(w.1 A).2 _ _ f⟩;exact ⟨_,RowS.grow f (w.2.2 A (fun g=>P g.symm))⟩;exact trivial
 · refine aG ?_;refine sC3 (fun t _ b _ _ _ v _ _ _ _ c=>?_) ?_
   · obtain ⟨i,j,k,e⟩:=b;have D:t (.tmp 4)=.pointer (some a):=v 4 kR;go_simp;exact c _ _ (bM dC dC bR) rfl
   refine sC3 (fun t _ b _ _ _ v _ _ _ _ c=>?_) ?_
   · obtain ⟨i,j,k,e⟩:=b;have D:t (.tmp 4)=.pointer (some a):=v 4 kR;go_simp;exact c _ _ (bM dC dC bR) rfl
   refine sC3 (fun t _ b _ _ _ v _ _ _ _ c=>?_) ?_
   · obtain ⟨i,j,k,e⟩:=b;have D:t (.tmp 4)=.pointer (some a):=v 4 kR;go_simp;exact c _ _ (bM dC dC bR) rfl
   refine sC3 (fun _ _ b _ _ _ _ d _ _ _ c=>?_) ?_
   · obtain ⟨i,j,k,e⟩:=b;have ah:_=_:=d 2 20 kR rfl;go_simp;exact c _ _ (bM dC dC bR) rfl
   refine sC3 (fun _ _ b _ _ _ _ d _ _ _ c=>?_) ?_
   · obtain ⟨i,j,k,e⟩:=b;have ai:_=_:=d 3 21 kR rfl;go_simp;exact c _ _ (bM dC dC bR) rfl
   refine sC3 (fun _ n b _ _ _ _ d _ _ _ c=>?_) ?_
   · obtain ⟨i,j,k,e⟩:=b;have aj:_=_:=d 4 22 kR rfl;have Y:n.cell? ⟨a,7,none⟩=some (.pointer (some l)):=(World.ownsRow.cellAt e 7 oM).trans rfl;go_simp;exact c _ _ (bM dC dC bR) rfl
   refine sC3 (fun _ n b _ _ _ _ d _ _ _ c=>?_) ?_
   · obtain ⟨i,j,k,e⟩:=b;have ak:_=_:=d 5 23 kR rfl;have K:=i.bk N.out (fun g=>O g);go_simp;refine (tP l s n K).mono ?_;rintro g a7 ⟨rfl,rfl⟩;exact c _ _ (bM dC dC bR) (cS V.out)
   refine sC3 (fun t _ b _ _ _ v _ _ _ _ c=>?_) ?_
   · obtain ⟨i,j,k,e⟩:=b;have D:t (.tmp 4)=.pointer (some a):=v 4 kR;go_simp;exact c _ _ (bM dC dC bR) rfl
   refine sC3 (fun _ _ b _ _ _ _ d _ _ _ c=>?_) ?_
   · obtain ⟨i,j,k,e⟩:=b;have am:_=_:=d 7 25 kR rfl;go_simp;exact c _ _ (bM dC dC bR) rfl
   refine sC3 (fun _ _ b _ _ _ _ d _ _ _ c=>?_) ?_
   · obtain ⟨i,j,k,e⟩:=b;have an:_=_:=d 8 26 kR rfl;go_simp;exact c _ _ (bM dC dC bR) rfl
   refine sC3 (fun _ n b _ _ _ _ d _ _ _ c=>?_) ?_
   · obtain ⟨i,j,k,e⟩:=b;have ao:_=_:=d 9 27 kR rfl;have Y:n.cell? ⟨a,7,none⟩=some (.pointer (some l)):=(World.ownsRow.cellAt e 7 oM).trans rfl;go_simp;exact c _ _ (bM dC dC bR) rfl
   refine sC3 (fun _ n b _ _ _ _ d _ _ _ c=>?_) ?_
   · obtain ⟨i,j,k,e⟩:=b;have ap:_=_:=d 10 28 kR rfl;have K:=i.bk N.out (fun g=>O g);go_simp;refine (qJ l s n K a2).mono ?_;rintro g a7 ⟨rfl,rfl⟩;exact c _ _ (bM dC dC bR) (cS W.out)
   refine sC3 (fun _ _ b _ _ _ _ d _ _ _ c=>?_) ?_
   · obtain ⟨i,j,k,e⟩:=b;have af:_=_:=d 0 18 kR rfl;go_simp;exact c _ _ (bM dC dC bR) rfl
   refine sC3 (fun _ _ b _ _ _ _ d _ _ _ c=>?_) ?_
   · obtain ⟨i,j,k,e⟩:=b;have ar:_=_:=d 12 30 kR rfl;go_simp;exact c _ _ (bM dC dC bR) rfl
   refine sC3 (fun _ n b _ _ _ _ d _ _ _ c=>?_) ?_
   · obtain ⟨i,j,k,e⟩:=b;have au:_=_:=d 13 31 kR rfl;have al:_=_:=d 6 24 kR rfl;have ad:n.cell? ⟨a,3,none⟩=some (.int .i64 j):=(World.ownsRow.cellAt e 3 oM).trans rfl;have ax:=World.ownsRow.frozenAt e 3;go_simp;exact c (.bool true) _ ⟨fun _=>⟨Keep.setCell (F:=fun y=>y=a) (Keep.refl _ _) (p:=⟨a,3,none⟩) (.inl rfl) _,fun T U z=>z.at3 r⟩,fun g=>absurd g dC,fun g=>absurd rfl g⟩ ⟨k,e.at3 r⟩
   refine sC3 (fun _ _ b _ _ _ _ d _ _ _ c=>?_) ?_
   · obtain ⟨i,j,k,e⟩:=b;have ag:_=_:=d 1 19 kR rfl;go_simp;exact c _ _ (bM dC dC bR) rfl
   refine sC3 (fun _ _ b _ _ _ _ d _ _ _ c=>?_) ?_
   · obtain ⟨i,j,k,e⟩:=b;have av:_=_:=d 15 32 kR rfl;go_simp;exact c _ _ (bM dC dC bR) rfl
   refine sC3 (fun _ n b _ _ _ _ d _ _ _ c=>?_) ?_
   · obtain ⟨i,j,k,e⟩:=b;have aw:_=_:=d 16 33 kR rfl;have aq:_=_:=d 11 29 kR rfl;have ae:n.cell? ⟨a,4,none⟩=some (.int .i64 k):=(World.ownsRow.cellAt e 4 oM).trans rfl;have ay:=World.ownsRow.frozenAt e 4;go_simp;exact c (.bool true) _ ⟨fun g=>absurd g dC,fun _=>⟨Keep.setCell (F:=fun y=>y=a) (Keep.refl _ _) (p:=⟨a,4,none⟩) (.inl rfl) _,fun T U z=>z.at4 o⟩,fun _ g=>absurd rfl g⟩ ⟨j,e.at4 o⟩
   exact aC
 · intro t M b d I;obtain ⟨a1,_⟩:=b;obtain ⟨_,aa,A⟩:∃x,N3 q a m l r x M:=I 14 dC;obtain ⟨_,aD,C⟩:∃x,N4 q a m l o x M:=I 17 dC;have a0:RowS q a m l r o M:=(by have a3:=(World.ownsRow.cellAt A 4 oM).symm.trans (World.ownsRow.cellAt C 4 oM);have a4:aa=o:=(by simpa [qY] using a3);rw [<-a4];exact A);simp only [zqq];clear d I;go_wp2;exact bodyPost_ret (results_none rfl _ _ _) rfl ⟨rfl,a1,a0⟩
end
end Go.Proofs.YtihaijbgmjdhgaaGreatDoor
