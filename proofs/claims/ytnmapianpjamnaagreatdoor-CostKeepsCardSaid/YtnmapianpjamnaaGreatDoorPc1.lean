/- Lemmas of the walk. Conditions: each its own. -/
import Derived.Test.YtnmapianpjamnaaGreatDoorPc0
import Derived.Test.YtnmapianpjamnaaGreatDoorProg
set_option linter.all false
set_option maxRecDepth 100000
set_option maxHeartbeats 4000000
namespace Go.Proofs.YtnmapianpjamnaaGreatDoor
open Tryz
section
open Go.RowKit
def yM (a b:Nat) (e:a < 18446744073709551616) (f:b < 18446744073709551616):bits .and .u64 (a:Int) (b:Int)=((a&&& b:Nat):Int):=
 (bits_nat .u64 64 dC (fun g c d=>by rw [IntKind.wrap_u64];omega) a b oM oM).1
def uJ (a b d c:Nat) (j:a < 18446744073709551616) (i:d < 18446744073709551616) (g:2 ^ b=c):bits .and .u64 ((a:Int)/(c:Int)) (d:Int)=((a >>> b&&& d:Nat):Int):=by
 have e:((a:Int)/(c:Int))=((a >>> b:Nat):Int):=by rw [Nat.shiftRight_eq_div_pow,g];push_cast;rfl
 have f:a >>> b < 18446744073709551616:=by rw [Nat.shiftRight_eq_div_pow];exact Nat.lt_of_le_of_lt (Nat.div_le_self _ _) j
 rw [e,yM _ _ f i]
def sO (a:Nat) (v:a < 18446744073709551616) (E:World):
 Calls prog 290 #[.int .u64 (a:Int)] E fun I L=>I=.returned (.int .i64 ((aV a 64:Nat):Int))/\E=L:=by
 obtain ⟨q,l⟩:∃c,c=a >>> 1&&& 6148914691236517205:=⟨_,rfl⟩;obtain ⟨r,m⟩:∃c,c=a&&& 6148914691236517205:=⟨_,rfl⟩;have b1:q<=6148914691236517205:=by rw [l];exact Nat.and_le_right
 have b2:r<=6148914691236517205:=by rw [m];exact Nat.and_le_right
 obtain ⟨d,y⟩:∃b,b=q+r:=⟨_,rfl⟩;obtain ⟨s,n⟩:∃c,c=d >>> 2&&& 3689348814741910323:=⟨_,rfl⟩;obtain ⟨t,o⟩:∃c,c=d&&& 3689348814741910323:=⟨_,rfl⟩;have F:s<=3689348814741910323:=by rw [n];exact Nat.and_le_right
 have G:t<=3689348814741910323:=by rw [o];exact Nat.and_le_right
 obtain ⟨e,z⟩:∃b,b=s+t:=⟨_,rfl⟩;obtain ⟨j,u⟩:∃K,K=e >>> 4+e:=⟨_,rfl⟩;have J:j=e / 16+e:=by rw [u,Nat.shiftRight_eq_div_pow]
 obtain ⟨f,p⟩:∃b,b=j&&& 1085102592571150095:=⟨_,rfl⟩;have H:f<=1085102592571150095:=by rw [p];exact Nat.and_le_right
 obtain ⟨g,A⟩:∃b,b=f+f / 256:=⟨_,rfl⟩;obtain ⟨i,B⟩:∃b,b=g+g / 65536:=⟨_,rfl⟩;obtain ⟨k,C⟩:∃b,b=i+i / 4294967296:=⟨_,rfl⟩;have x:f=xG a:=by rw [p,u,z,n,o,y,l,m];rfl
 obtain ⟨w,O⟩:=aFH a v g i k (by rw [<-x];exact A) B C;have Q:bits .and .u64 ((a:Int)/ 2) 6148914691236517205=(q:Int):=by rw [l];exact uJ a 1 6148914691236517205 2 v oM dC
 have T:bits .and .u64 (a:Int) 6148914691236517205=(r:Int):=by rw [m];exact yM a 6148914691236517205 v oM
 have U:IntKind.u64.wrap ((q:Int)+(r:Int))=(d:Int):=by rw [IntKind.wrap_u64];omega
 have V:bits .and .u64 ((d:Int)/ 4) 3689348814741910323=(s:Int):=by rw [n];exact uJ d 2 3689348814741910323 4 oM oM dC
 have W:bits .and .u64 (d:Int) 3689348814741910323=(t:Int):=by rw [o];exact yM d 3689348814741910323 oM oM
 have X:IntKind.u64.wrap ((s:Int)+(t:Int))=(e:Int):=by rw [IntKind.wrap_u64];omega
 have Y:IntKind.u64.wrap ((e:Int)/ 16+(e:Int))=(j:Int):=by rw [IntKind.wrap_u64];omega
 have Z:bits .and .u64 (j:Int) 1085102592571150095=(f:Int):=by rw [p];exact yM j 1085102592571150095 oM oM
 have a0:IntKind.u64.wrap ((f:Int)+(f:Int)/ 256)=(g:Int):=by rw [IntKind.wrap_u64];omega
 have R:IntKind.u64.wrap ((g:Int)+(g:Int)/ 65536)=(i:Int):=by rw [IntKind.wrap_u64];omega
 have S:IntKind.u64.wrap ((i:Int)+(i:Int)/ 4294967296)=(k:Int):=by rw [IntKind.wrap_u64];omega
 have P:k < 9223372036854775808:=oM;have D:bits .and .i64 (k:Int) 127=((aV a 64:Nat):Int):=by have:=bits_mask .i64 63 dC (fun a1 M N=>by rw [IntKind.wrap_i64];omega) 7 dC (k:Int) oM oM;rw [show ((2:Int)^ 7 - 1)=127 by decide,show ((2:Int)^ 7)=128 by decide] at this;rw [this,<-w];omega
 clear l m y n o z u J p A B C x w b1 b2 F G H;go_enter func290,ntmps290;go_wp2;go_ret;exact ⟨cT (by first | exact D | simp [D]),rfl⟩
def aC2 (d a c:Nat) (f:a<=c):aV (d % 2 ^ a) c=aV d a:=by
 obtain ⟨b,rfl⟩:∃b,c=a+b:=⟨c - a,by omega⟩;rw [xU,xT];have:(d % 2 ^ a)>>> a=0:=by rw [Nat.shiftRight_eq_div_pow];exact Nat.div_eq_of_lt (Nat.mod_lt _ (Nat.two_pow_pos a))
 rw [this];have e:∀b,aV 0 b=0:=fun b=>by unfold aV;simp
 rw [e];rfl
def vC (b:Nat) (a:Int):Nat:=b % 2 ^(min a.toNat 64)
def uvn (a:Nat):Value:=.int .u64 (a:Int)
def mS (d:Nat) (c:Int) (y:d < 18446744073709551616) (v:-9223372036854775808<=c/\c<=9223372036854775807) (g:World):
 Calls prog 287 #[.int .u64 (d:Int),.int .i64 c] g fun i o=>i=.returned (.int .u64 ((vC d c:Nat):Int))/\g=o:=by
 unfold vC;by_cases f:c<=0
 · have j:d % 2 ^(min c.toNat 64)=0:=(by rw [show c.toNat=0 by omega];simp [Nat.mod_one]);rw [j];go_enter func287,ntmps287;go_wp2;go_ret;exact ⟨rfl,rfl⟩
 · by_cases m:c>=64
   · have k:d % 2 ^(min c.toNat 64)=d:=(by rw [show min c.toNat 64=64 by omega];exact zBu oM);rw [k];have s:¬(c<=0):=f;go_enter func287,ntmps287;go_wp2;go_ret;exact ⟨rfl,rfl⟩
   · obtain ⟨b,rfl⟩:∃b:Nat,c=(b:Int):=⟨c.toNat,by omega⟩;have n:b < 64:=oM;have p:decide ((b:Int)<=0)=false:=(by simp;omega);have q:decide ((b:Int)>=64)=false:=(by simp;omega);have l:min (b:Int).toNat 64=b:=oM;rw [l];have w:2 ^ b < 18446744073709551616:=(by have:=Nat.pow_lt_pow_right (a:=2) dC n;omega);have e:((2:Int)^ b)=((2 ^ b:Nat):Int):=(by push_cast;rfl);have x:=Nat.two_pow_pos b;have r:IntKind.u64.wrap ((2:Int)^ b)=(2:Int)^ b:=(by rw [e,IntKind.wrap_u64];omega);have t:IntKind.u64.wrap ((2:Int)^ b - 1)=(2:Int)^ b - 1:=(by rw [e,IntKind.wrap_u64];omega);have u:bits .and .u64 (d:Int) ((2:Int)^ b - 1)=(d:Int)% 2 ^ b:=bits_mask .u64 64 dC (fun z f m=>by rw [IntKind.wrap_u64];omega) b oM (d:Int) oM oM;clear e;go_enter func287,ntmps287;go_wp2;go_ret;exact ⟨by first | rfl | simp,rfl⟩
def fG (k:Option Addr) (d B w:Nat) (c:List Nat) (f:World) (g:Rd f w 1 k d (c.map uvn)) (p:∀G∈c,G < 18446744073709551616) (N:d<=1048576):
 Calls prog 283 #[.slice k d B] f fun m v=>m=.returned (.int .i64 (((c.map fun b=>aV b 64).sum:Nat):Int))/\f=v:=by
 have r:c.length=d:=by simpa using g.1
 obtain ⟨A,y,l⟩:=hqq3 g p r;have n:∀a,((c.take a).map fun b=>aV b 64).sum<=a*64:=fun a=>by
  induction a with
  | zero=>simp
  | succ a F=>
    by_cases o:a < c.length;rw [List.take_succ_eq_append_getElem o,zAz,List.sum_append];have:=kW c[a] 64;simp only [List.map_cons,List.map_nil,List.sum_cons,List.sum_nil];omega;rw [zAg oM];rw [zAg oM] at F;omega
 have x:=lhd n;clear g p r n;go_enter func283,ntmps283;go_wp2;go_loopw [3,8] (fun H j wr=>∃a:Nat,a<=d/\j=.int .i64 a/\H=.int .i64 ((((c.take a).map fun b=>aV b 64).sum:Nat):Int)/\f=wr) (fun _ j _=>d -(intOf j).toNat)
 case atStart=>exact ⟨0,zAp _,rfl,by simp,rfl⟩
 case round=>
  obtain ⟨a,o,rfl,rfl,rfl⟩:=hrel;by_cases s:a < d
  · have D:a < c.length:=(by rw [l.out];exact s);obtain ⟨b,e⟩:∃b,c[a]?=some b:=⟨c[a],zAa D⟩;obtain ⟨I,O,P,rfl,L,i,C⟩:=A.out.get s;rw [zAf,e] at i;simp at i;subst i;unfold uvn at C;have E:=y.out b (zAd e);have t:((c.take (a+1)).map fun b=>aV b 64).sum=((c.take a).map fun b=>aV b 64).sum+aV b 64:=(by rw [zAv,e];simp);have K:=x.out a;have J:=kW b 64;generalize ((c.take a).map fun b=>aV b 64).sum=q at*
    have z:=lhd t;clear t e;go_wp2_with fail;refine (sO b E _).mono ?_;rintro m v ⟨rfl,rfl⟩;go_wp2;go_roundw
    case rel=>exact ⟨a+1,by omega,by go_num,by rw [z.out];go_num,trivial⟩
    case measure=>simp [intOf];omega
  · have M:d<=a:=oM;have u:c.take a=c:=zAg (by have:=l.out;omega);rw [u];clear u;go_wp2;go_ret;exact ⟨rfl,rfl⟩
def qC (b:Nat) (a:Int):Nat:=aV b (min a.toNat 64)
def nP (a:Nat) (b:Int) (f:a < 18446744073709551616) (i:-9223372036854775808<=b/\b<=9223372036854775807) (d:World):
 Calls prog 273 #[.int .u64 (a:Int),.int .i64 b] d fun c e=>c=.returned (.int .i64 ((qC a b:Nat):Int))/\Below d.heap.size d e:=by
 have j:vC a b < 18446744073709551616:=by unfold vC;exact Nat.lt_of_le_of_lt (Nat.mod_le _ _) f
 have g:aV (vC a b) 64=qC a b:=aC2 a _ 64 (Nat.min_le_right _ _);go_enter func273,ntmps273;go_wp2_with fail;refine (mS a b f i _).mono ?_;rintro c e ⟨rfl,rfl⟩;go_wp2_with fail;refine (fG _ 1 1 _ [vC a b] _ (Rd.made _ _ 1 1 _ rfl) (by simpa using j) oM).mono ?_;rintro c e ⟨rfl,rfl⟩;have k:(([vC a b].map fun a=>aV a 64).sum)=qC a b:=by simp [g]
 rw [k];go_wp2_with fail;go_ret;exact ⟨rfl,bR.alloc nL _⟩
end
section
def iB:List Bool->Nat
 | []=>0
 | b::l=>(if b then 1 else 0)+2*iB l
def pI (a:List Bool):iB a < 2 ^ a.length:=by
 induction a with
 | nil=>simp [iB]
 | cons b a c=>
   simp only [iB,zCf,Nat.pow_succ];cases b <;> simp <;> omega
def gR (b:List Bool) (a:Nat):(iB b).testBit a=b.getD a false:=by
 induction b generalizing a with
 | nil=>simp [iB]
 | cons c b e=>
   cases a with
   | zero=>
     simp only [iB,List.getD_cons_zero,Nat.testBit_zero];cases c <;> simp <;> omega
   | succ a=>
     have d:((if c then 1 else 0)+2*iB b)/ 2=iB b:=(by cases c <;> simp <;> omega);simp only [iB,List.getD_cons_succ,Nat.testBit_succ,d];exact e a
def yC (a b:List Bool):iB (a++b)=iB a+2 ^ a.length*iB b:=by
 induction a with
 | nil=>simp [iB]
 | cons d a c=>
   simp only [List.cons_append,iB,c,zCf,Nat.pow_succ];cases d <;> simp <;> rw [Nat.mul_add,<-Nat.mul_assoc,Nat.mul_comm 2 (2 ^ a.length)] <;> omega
def lD (b:List Bool) (a:Nat):aV (iB b) a=(b.take a).count true:=by
 induction a with
 | zero=>simp [kV]
 | succ a e=>
   rw [cM,e,gR,zAv,zCc];cases c:b[a]? with
   | none=>simp [zAb,c]
   | some d=>cases d <;> simp [zAb,c]
def tQ (b:List Bool) (a:Bool):iB (b++ [a])=iB b+if a then 2 ^ b.length else 0:=by
 rw [yC];cases a <;> simp [iB]
def aC1 (a b:Nat) (c:a < 2 ^ b):a||| 2 ^ b=a+2 ^ b:=by
 have:=Nat.two_pow_add_eq_or_of_lt c 1;rw [zBl] at this;rw [Nat.or_comm,<-this,zCp]
def w0 (a:List Bool):Nat:=iB (a.take 64)
def w1 (a:List Bool):Nat:=iB (a.drop 64)
def jN (a:List Bool):w0 a < 18446744073709551616:=by
 have c:=pI (a.take 64);have b:(a.take 64).length<=64:=by rw [zAj];omega
 have d:=zBp (n:=2) dC b;unfold w0;omega
def jK (a:List Bool) (e:a.length<=128):w1 a < 18446744073709551616:=by
 have c:=pI (a.drop 64);have b:(a.drop 64).length<=64:=by rw [zAw];omega
 have d:=zBp (n:=2) dC b;unfold w1;omega
def aEI (a:List Bool) (b:a.length<=128):aV (w0 a) 64+aV (w1 a) 64=a.count true:=by
 unfold w0 w1;rw [lD,lD,List.take_take,Nat.min_self,zAg (l:=a.drop 64) (by rw [zAw];omega),<-zCc,zAu]
def aEH (b:List Bool) (a:Nat) (g:b.length<=128) (f:a<=b.length):aV (w0 b) (min a 64)+aV (w1 b) (min (a - 64) 64)=(b.take a).count true:=by
 unfold w0 w1;rw [lD,lD,List.take_take];rcases zBe a 64 with e | e
 · have c:min (min a 64) 64=a:=oM;have d:min (a - 64) 64=0:=oM;rw [c,d,List.take_zero,List.count_nil,zBq]
 have c:min (min a 64) 64=64:=oM;have d:min (a - 64) 64=a - 64:=oM;rw [c,d,<-zCc];congr 1;rw [<-zAu 64 (b.take a),List.take_take,List.drop_take];congr 2;omega
def sY (a:List Bool) (b:Bool) (c:a.length < 64):w0 (a++ [b])=w0 a+(if b then 2 ^ a.length else 0)/\w1 (a++ [b])=w1 a:=by
 unfold w0 w1;rw [zAg (by simp;omega),zAg oM,List.drop_of_length_le (by simp;omega),List.drop_of_length_le oM];exact ⟨tQ a b,rfl⟩
def sZ (a:List Bool) (b:Bool) (c:64<=a.length):w0 (a++ [b])=w0 a/\w1 (a++ [b])=w1 a+(if b then 2 ^(a.length - 64) else 0):=by
 unfold w0 w1;rw [List.take_append_of_le_length c,List.drop_append_of_le_length c,tQ,zAw];exact ⟨rfl,rfl⟩
def aCr (a:List Bool) (b:a.length < 64):w0 a < 2 ^ a.length:=by
 unfold w0;rw [zAg oM];exact pI a
def aCp (a:List Bool):w1 a < 2 ^(a.length - 64):=by
 unfold w1;have:=pI (a.drop 64);rwa [zAw] at this
end
section
open Go.RowKit
def cC (a:List Bool):Array Value:=#[.int .i64 (a.length:Int),.int .u64 ((w0 a:Nat):Int),.int .u64 ((w1 a:Nat):Int)]
def aBJ (a b:Nat) (e:a < 18446744073709551616) (f:b < 18446744073709551616):bits .or .u64 (a:Int) (b:Int)=((a||| b:Nat):Int):=
 (bits_nat .u64 64 dC (fun g c d=>by rw [IntKind.wrap_u64];omega) a b oM oM).2
def eA (a3:Option Addr) (k ac a4:Nat) (e:List Bool) (n:World) (u:Rd n a4 1 a3 k (e.map Value.bool)) (hB:a4<=n.heap.size) (aE:k<=128):
 Calls prog 191 #[.slice a3 k ac] n fun J a9=>J=.returned (.tuple #[n.heap.size,.int .i64 0])/\Bk a9 n.heap.size 240 (cC e)/\Below n.heap.size n a9:=by
 have a6:e.length=k:=by simpa using u.1
 obtain ⟨S,ab⟩:=hqq2 a6 (u.mono hB);have aB:¬((k:Int) > 128):=oM;clear u a6;obtain ⟨c,X⟩:=eqx n.heap.size;go_enter func191,ntmps191;go_wp2;have ap:=(Below.refl n.heap.size n).alloc nL (.cells #[(k:Int),.int .u64 0,.int .u64 0] 240);have a5:=Bk.new n 240 #[(k:Int),.int .u64 0,.int .u64 0];rw [X] at a5
 try rw [X]
 go_loopw [16] (fun a0 wr=>∃b:Nat,b<=k/\a0=.int .i64 b/\Bk wr c 240 #[(k:Int),.int .u64 ((w0 (e.take b):Nat):Int),.int .u64 ((w1 (e.take b):Nat):Int)]/\Below n.heap.size n wr) (fun a0 _=>k -(intOf a0).toNat)
 case atStart=>exact ⟨0,zAp _,rfl,a5,ap⟩
 case round=>
  obtain ⟨b,aD,rfl,x,w⟩:=hrel;have a8:=w.size;by_cases a7:b < k
  · have ar:b < e.length:=(by rw [S.out];exact a7);obtain ⟨Q,P⟩:∃Q,e[b]?=some Q:=⟨e[b],zAa ar⟩;obtain ⟨o,aF,aI,rfl,az,Z,aA⟩:=(ab.out.below w).get a7;rw [zAf,P] at Z;simp at Z;subst Z;have y:e.take (b+1)=e.take b++ [Q]:=(by rw [zAv,P];rfl);have D:(e.take b).length=b:=(by rw [zAj];omega);cases Q with
    | false=>
      have s:w0 (e.take (b+1))=w0 (e.take b)/\w1 (e.take (b+1))=w1 (e.take b):=(by rw [y];rcases zBe b 64 with l | l;have:=sY (e.take b) false oM;simpa using this;have:=sZ (e.take b) false oM;simpa using this);obtain ⟨Hn,aa⟩:=hqq2 s x;clear s y D P x;go_wp2;go_roundw
      case rel=>exact ⟨b+1,by omega,by go_num,by rw [Hn.out.1,Hn.out.2];exact aa.out,w⟩
      case measure=>simp [intOf];omega
    | true=>
      rcases zBe b 64 with ao | ao
      · obtain ⟨g,u⟩:∃g:Nat,g=b:=⟨_,rfl⟩;have av:IntKind.i64.wrap ((b:Int)/ 64)=0:=(by rw [IntKind.wrap_i64];omega);have au:(b:Int).tmod 64=(g:Int):=(by rw [Int.tmod_eq_emod_of_nonneg oM];omega);have aw:IntKind.u64.wrap (g:Int)=(g:Int):=(by rw [IntKind.wrap_u64];omega);have Y:g < 64:=oM;obtain ⟨j,m⟩:∃j:Nat,j=2 ^ g:=⟨_,rfl⟩;have U:j < 18446744073709551616:=(by have:=Nat.pow_lt_pow_right (a:=2) dC Y;omega);obtain ⟨i,v⟩:∃i:Nat,i=w0 (e.take b):=⟨_,rfl⟩;obtain ⟨r,C⟩:∃r:Nat,r=w1 (e.take b):=⟨_,rfl⟩;obtain ⟨q,B⟩:∃q:Nat,q=i+j:=⟨_,rfl⟩;have L:i < j:=(by have:=aCr (e.take b) oM;rw [D] at this;rw [v,m,u];exact this);have s:=sY (e.take b) true oM;rw [<-y,<-v,<-C,D] at s;have N:w0 (e.take (b+1))=q/\w1 (e.take (b+1))=r:=⟨by rw [s.1,B,m,u];rfl,s.2⟩;have O:bits .or .u64 (i:Int) (j:Int)=(q:Int):=(by rw [aBJ i j oM U,m,aC1 i g (by rw [<-m];exact L),B,m]);have R:=lhd O;have K:IntKind.u64.wrap ((2:Int)^ g)=(j:Int):=(by rw [m,IntKind.wrap_u64];have J:((2:Int)^ g)=((2 ^ g:Nat):Int):=(by push_cast;rfl);rw [J,<-m];omega);obtain ⟨H,I⟩:=hqq2 K N;rw [<-v,<-C] at x;clear O K s N v C B m L y D P u;go_wp2;refine wp_region_any kR ?_;refine bL [22,23,24,25,26,27,28,29,30,31,32,33,34,35,36] (fun o=>o=c) 15 [6,15] (fun w1=>Bk w1 c 240 #[(k:Int),.int .u64 (i:Int),.int .u64 (r:Int)]) (fun _ w1=>Bk w1 c 240 #[(k:Int),.int .u64 (q:Int),.int .u64 (r:Int)]) [is (.pointer (some ⟨c,0,none⟩)),is (b:Int),is (.int .i64 0),is (.pointer (some ⟨c,0,none⟩)),is (.pointer (some ⟨c,1,none⟩)),is (.pointer (some ⟨c,1,none⟩)),is (.int .u64 (i:Int)),is (b:Int),is (g:Int),is (.int .u64 (g:Int)),is (.int .u64 (j:Int)),is (.int .u64 (q:Int)),is (.pointer (some ⟨c,0,none⟩)),is (.pointer (some ⟨c,1,none⟩)),is (.pointer (some ⟨c,1,none⟩)),cR] _ _ rfl kR kR (x) (fun w1 ay l _ W=>Bk.below l W l.lt) (fun _ _ _ l b=>Bk.below l b l.lt) tA0 ?_ ?_
        · refine aZ ?_;refine pH3 4 (.pointer (some ⟨c,0,none⟩)) ?_;refine pH3 5 (.int .i64 (b:Int)) ?_;refine sC3 (fun _ _ _ _ _ _ _ d _ _ _ f=>?_) ?_
          · have ad:_=_:=d 1 23 kR rfl;go_simp;exact f _ _ (aG bR) (dF (by first | rfl | omega))
          refine pV3 0 22 ?_;refine pV3 3 25 ?_;refine pW3 4 26 2 24 ?_;refine sC3 (fun _ E _ A _ _ _ d _ _ _ f=>?_) ?_
          · have t:=A rfl;have ae:_=_:=d 5 27 kR rfl;have T:E.cell? ⟨c,1,none⟩=some (.int .u64 (i:Int)):=(t.cell 1).trans rfl;go_simp;exact kq f rfl
          refine pH3 5 (.int .i64 (b:Int)) ?_;refine sC3 (fun _ _ _ _ _ _ _ d _ _ _ f=>?_) ?_
          · have ag:_=_:=d 7 29 kR rfl;go_simp;exact f _ _ (aG bR) (dF (by first | rfl | omega))
          refine sC3 (fun _ _ _ _ _ _ _ d _ _ _ f=>?_) ?_
          · have ah:_=_:=d 8 30 kR rfl;go_simp;exact f _ _ (aG bR) (nY (by first | rfl | omega))
          refine sC3 (fun _ _ _ _ _ _ _ d _ _ _ f=>?_) ?_
          · have ai:_=_:=d 9 31 kR rfl;go_simp;exact f _ _ (aG bR) (nY (by first | exact H.out | simpa using H.out))
          refine sC3 (fun _ _ _ _ _ _ _ d _ _ _ f=>?_) ?_
          · have af:_=_:=d 6 28 kR rfl;have aj:_=_:=d 10 32 kR rfl;go_simp;exact f _ _ (aG bR) (nY R.out)
          refine pV3 0 22 ?_;refine pV3 12 34 ?_;refine pW3 13 35 2 24 ?_;refine sC3 (fun _ E _ A _ _ _ d _ _ _ f=>?_) ?_
          · have t:=A rfl;have al:_=_:=d 14 36 kR rfl;have ak:_=_:=d 11 33 kR rfl;have T:E.cell? ⟨c,1,none⟩=some (.int .u64 (i:Int)):=(t.cell 1).trans rfl;have an:=t.frozen 1;go_simp;exact f (.bool true) _ (aW (Keep.setCell (F:=fun o=>o=c) (Keep.refl _ _) (p:=⟨c,1,none⟩) (.inl rfl) _)) (t.set 1 _)
          exact aH
        · intro am G z d M;replace z:Keep (fun o=>o=c) wr G:=kD z;obtain ⟨ax,a1⟩:∃a2,(fun _ w1=>Bk w1 c 240 #[(k:Int),.int .u64 (q:Int),.int .u64 (r:Int)]) a2 G:=M 15 dC;simp only [zqq];clear d M;have V:Below n.heap.size n G:=w.trans (z.to_below a8 (fun o w l=>absurd (show o=c from l) oM));go_wp2;go_roundw
          case rel=>exact ⟨b+1,by omega,by go_num,by rw [I.out.1,I.out.2];exact a1,V⟩
          case measure=>simp [intOf];omega
      · obtain ⟨g,u⟩:∃g:Nat,g=b - 64:=⟨_,rfl⟩;have av:IntKind.i64.wrap ((b:Int)/ 64)=1:=(by rw [IntKind.wrap_i64];omega);have au:(b:Int).tmod 64=(g:Int):=(by rw [Int.tmod_eq_emod_of_nonneg oM];omega);have aw:IntKind.u64.wrap (g:Int)=(g:Int):=(by rw [IntKind.wrap_u64];omega);have Y:g < 64:=oM;obtain ⟨j,m⟩:∃j:Nat,j=2 ^ g:=⟨_,rfl⟩;have U:j < 18446744073709551616:=(by have:=Nat.pow_lt_pow_right (a:=2) dC Y;omega);obtain ⟨i,v⟩:∃i:Nat,i=w1 (e.take b):=⟨_,rfl⟩;obtain ⟨r,C⟩:∃r:Nat,r=w0 (e.take b):=⟨_,rfl⟩;obtain ⟨q,B⟩:∃q:Nat,q=i+j:=⟨_,rfl⟩;have L:i < j:=(by have:=aCp (e.take b);rw [D] at this;rw [v,m,u];exact this);have s:=sZ (e.take b) true oM;rw [<-y,<-v,<-C,D] at s;have N:w1 (e.take (b+1))=q/\w0 (e.take (b+1))=r:=⟨by rw [s.2,B,m,u];rfl,s.1⟩;have O:bits .or .u64 (i:Int) (j:Int)=(q:Int):=(by rw [aBJ i j oM U,m,aC1 i g (by rw [<-m];exact L),B,m]);have R:=lhd O;have K:IntKind.u64.wrap ((2:Int)^ g)=(j:Int):=(by rw [m,IntKind.wrap_u64];have J:((2:Int)^ g)=((2 ^ g:Nat):Int):=(by push_cast;rfl);rw [J,<-m];omega);obtain ⟨H,I⟩:=hqq2 K N;rw [<-v,<-C] at x;clear O K s N v C B m L y D P u;go_wp2;refine wp_region_any kR ?_;refine bL [22,23,24,25,26,27,28,29,30,31,32,33,34,35,36] (fun o=>o=c) 15 [6,15] (fun w1=>Bk w1 c 240 #[(k:Int),.int .u64 (r:Int),.int .u64 (i:Int)]) (fun _ w1=>Bk w1 c 240 #[(k:Int),.int .u64 (r:Int),.int .u64 (q:Int)]) [is (.pointer (some ⟨c,0,none⟩)),is (b:Int),is (.int .i64 1),is (.pointer (some ⟨c,0,none⟩)),is (.pointer (some ⟨c,1,none⟩)),is (.pointer (some ⟨c,2,none⟩)),is (.int .u64 (i:Int)),is (b:Int),is (g:Int),is (.int .u64 (g:Int)),is (.int .u64 (j:Int)),is (.int .u64 (q:Int)),is (.pointer (some ⟨c,0,none⟩)),is (.pointer (some ⟨c,1,none⟩)),is (.pointer (some ⟨c,2,none⟩)),cR] _ _ rfl kR kR (x) (fun w1 ay l _ W=>Bk.below l W l.lt) (fun _ _ _ l b=>Bk.below l b l.lt) tA0 ?_ ?_
        · refine aZ ?_;refine pH3 4 (.pointer (some ⟨c,0,none⟩)) ?_;refine pH3 5 (.int .i64 (b:Int)) ?_;refine sC3 (fun _ _ _ _ _ _ _ d _ _ _ f=>?_) ?_
          · have ad:_=_:=d 1 23 kR rfl;go_simp;exact f _ _ (aG bR) (dF (by first | rfl | omega))
          refine pV3 0 22 ?_;refine pV3 3 25 ?_;refine pW3 4 26 2 24 ?_;refine sC3 (fun _ E _ A _ _ _ d _ _ _ f=>?_) ?_
          · have t:=A rfl;have ae:_=_:=d 5 27 kR rfl;have T:E.cell? ⟨c,2,none⟩=some (.int .u64 (i:Int)):=(t.cell 2).trans rfl;go_simp;exact kq f rfl
          refine pH3 5 (.int .i64 (b:Int)) ?_;refine sC3 (fun _ _ _ _ _ _ _ d _ _ _ f=>?_) ?_
          · have ag:_=_:=d 7 29 kR rfl;go_simp;exact f _ _ (aG bR) (dF (by first | rfl | omega))
          refine sC3 (fun _ _ _ _ _ _ _ d _ _ _ f=>?_) ?_
          · have ah:_=_:=d 8 30 kR rfl;go_simp;exact f _ _ (aG bR) (nY (by first | rfl | omega))
          refine sC3 (fun _ _ _ _ _ _ _ d _ _ _ f=>?_) ?_
          · have ai:_=_:=d 9 31 kR rfl;go_simp;exact f _ _ (aG bR) (nY (by first | exact H.out | simpa using H.out))
          refine sC3 (fun _ _ _ _ _ _ _ d _ _ _ f=>?_) ?_
          · have af:_=_:=d 6 28 kR rfl;have aj:_=_:=d 10 32 kR rfl;go_simp;exact f _ _ (aG bR) (nY R.out)
          refine pV3 0 22 ?_;refine pV3 12 34 ?_;refine pW3 13 35 2 24 ?_;refine sC3 (fun _ E _ A _ _ _ d _ _ _ f=>?_) ?_
          · have t:=A rfl;have al:_=_:=d 14 36 kR rfl;have ak:_=_:=d 11 33 kR rfl;have T:E.cell? ⟨c,2,none⟩=some (.int .u64 (i:Int)):=(t.cell 2).trans rfl;have an:=t.frozen 2;go_simp;exact f (.bool true) _ (aW (Keep.setCell (F:=fun o=>o=c) (Keep.refl _ _) (p:=⟨c,2,none⟩) (.inl rfl) _)) (t.set 2 _)
          exact aH
        · intro am G z d M;replace z:Keep (fun o=>o=c) wr G:=kD z;obtain ⟨ax,a1⟩:∃a2,(fun _ w1=>Bk w1 c 240 #[(k:Int),.int .u64 (r:Int),.int .u64 (q:Int)]) a2 G:=M 15 dC;simp only [zqq];clear d M;have V:Below n.heap.size n G:=w.trans (z.to_below a8 (fun o w l=>absurd (show o=c from l) oM));go_wp2;go_roundw
          case rel=>exact ⟨b+1,by omega,by go_num,by rw [I.out.1,I.out.2];exact a1,V⟩
          case measure=>simp [intOf];omega
  · have aC:k<=b:=oM;have y:e.take b=e:=zAg (by have:=S.out;omega);rw [y] at x;have aq:Bk wr c 240 (cC e):=(by unfold cC;rw [S.out];exact x);clear y x;go_wp2;go_ret2;rw [X] at w⊢;exact ⟨rfl,aq,w⟩
def gG (b:Nat) (c:List Bool) (a:World) (e:Bk a b 240 (cC c)):
 Calls prog 232 #[b] a fun d f=>d=.returned (.int .i64 (c.length:Int))/\a=f:=by
 have g:a.cell? b=some (.int .i64 (c.length:Int)):=(e.cell 0).trans rfl;go_enter func232,ntmps232;go_wp2;go_ret;exact ⟨rfl,rfl⟩
def aE9 {d:World} {a:Nat} {c:List Bool} (e:Bk d a 240 (cC c)):Rd d d.heap.size 1 (some ⟨a,1,none⟩) 2 ([w0 c,w1 c].map uvn):=by
 refine ⟨rfl,fun _=>⟨a,1,rfl,e.lt,fun f g b=>?_⟩⟩;rw [e.cell];rcases f with _ | _ | f;exact b;exact b
 · simp at b
def sW (d:Nat) (a:List Bool) (b:World) (i:Bk b d 240 (cC a)) (e:a.length<=128):
 Calls prog 269 #[d] b fun c g=>c=.returned (.int .i64 ((a.count true:Nat):Int))/\b=g:=by
 have j:(([w0 a,w1 a].map fun k=>aV k 64).sum)=a.count true:=by rw [<-aEI a e];simp
 go_enter func269,ntmps269;go_wp2_with fail;refine (fG _ 2 2 _ [w0 a,w1 a] _ (aE9 i) (by intro l f;simp at f;rcases f with rfl | rfl;exact jN a;exact jK a e) oM).mono ?_;rintro c g ⟨rfl,rfl⟩;rw [j];go_wp2;go_ret;exact ⟨rfl,rfl⟩
def ix0 (a c:Int) (b:World):(Instr.index 238 (.agg #[.int .u64 a,.int .u64 c]) (.int .i64 0)).run prog b=.ok (.int .u64 a) b:=by kernel_rfl
def ix1 (c a:Int) (b:World):(Instr.index 238 (.agg #[.int .u64 c,.int .u64 a]) (.int .i64 1)).run prog b=.ok (.int .u64 a) b:=by kernel_rfl
def sV (i:Nat) (b:List Bool) (a:Nat) (d:World) (c:Bk d i 240 (cC b)) (u:b.length<=128) (t:a<=b.length):
 Calls prog 238 #[i,(a:Int)] d fun m q=>m=.returned (.int .i64 (((b.take a).count true:Nat):Int))/\Below d.heap.size d q:=by
 have o:=aEH b a u t;obtain ⟨j,v⟩:=eqx b.length;obtain ⟨e,k⟩:=eqx (w0 b);obtain ⟨g,l⟩:=eqx (w1 b);have C:e < 18446744073709551616:=by rw [<-k];exact jN b
 have b1:g < 18446744073709551616:=by rw [<-l];exact jK b u
 have x:qC e (a:Int)=aV e (min a 64):=by unfold qC;rw [zBr]
 have y:qC g ((a:Int) - 64)=aV g (min (a - 64) 64):=by unfold qC;congr 2;omega
 rw [k,l] at o;have M:=kW e (min a 64);have N:=kW g (min (a - 64) 64);have D:d.cell? i=some (.int .i64 (j:Int)):=by rw [<-v];exact (c.cell 0).trans rfl
 have r:d.cell? ⟨i,1,none⟩=some (.int .u64 (e:Int)):=by rw [<-k];exact (c.cell 1).trans rfl
 have s:d.cell? ⟨i,2,none⟩=some (.int .u64 (g:Int)):=by rw [<-l];exact (c.cell 2).trans rfl
 have E:=c.lt;have J:a<=j:=oM;have K:j<=128:=oM;have O:max (a:Int) 0=(a:Int):=oM;have P:min (a:Int) (j:Int)=(a:Int):=oM;obtain ⟨z,A⟩:=hqq2 o x;have k0:=ix0;have L:=ix1;have B:=lhd y;clear c o k l v t x y;go_enter func238,ntmps238;go_wp2_with fail;go_loopw [5,14] (fun G p wr=>∃f:Nat,f<=2/\p=.int .i64 f/\G=.int .i64 (((if f=0 then 0 else if f=1 then aV e (min a 64) else (b.take a).count true):Nat):Int)/\Below d.heap.size d wr) (fun _ p _=>2 -(intOf p).toNat)
 case atStart=>exact ⟨0,by omega,rfl,rfl,Below.refl _ _⟩
 case round=>
  obtain ⟨f,I,rfl,rfl,c⟩:=hrel;have w:=c.size;have H:wr.cell? i=some (.int .i64 (j:Int)):=(c.cell E).trans D;rcases f with _ | _ | _ | f
  · clear r s;simp only [if_true];go_wp2_with fail;refine (nP e (a:Int) C oM _).mono ?_;rintro m q ⟨rfl,n⟩;rw [A.out];have hB:=c.trans (n.mono w);go_wp2_with fail;go_roundw
    case rel=>exact ⟨1,by omega,by go_num,by simp,hB⟩
    case measure=>simp [intOf]
  · clear r s;simp only [zBi,Nat.one_ne_zero,if_false,if_true];go_wp2_with fail;refine (nP g ((a:Int) - 64) b1 oM _).mono ?_;rintro m q ⟨rfl,n⟩;rw [B.out];have hB:=c.trans (n.mono w);have F:(((aV e (min a 64):Nat):Int)+((aV g (min (a - 64) 64):Nat):Int))=(((b.take a).count true:Nat):Int):=(by rw [<-z.out];push_cast;rfl);go_wp2_with fail;go_roundw
    case rel=>exact ⟨2,by omega,by go_num,by first | rfl |(simp;done)| exact dF (by simpa using F),hB⟩
    case measure=>simp [intOf]
  · simp only [show ¬(0+1+1=0) by omega,show ¬(0+1+1=1) by omega,if_false];go_wp2;go_ret;exact ⟨rfl,c⟩
  omega
def iO:(prog.info? 4).map (fun a=>(a.zero,a.size,a.bytes))=some (some (.bool false),1,1):=by kernel_rfl
def nQ (a:World):
 Calls prog 149 #[.int .i64 268435456] a fun c b=>c=.returned (.pointer (some a.heap.size))/\Bk b a.heap.size 228 #[.slice none 0 0,.slice none 0 0,.int .i64 268435456]/\Below a.heap.size a b:=by
 go_enter func149,ntmps149;go_wp2;go_ret;exact ⟨rfl,Bk.new _ _ _,bR.alloc nL _⟩
def aEP {c:World} {a:Nat} {g:TypeId} {f:Value} (d:Bk c a g #[f]):Rd c c.heap.size 1 (some ⟨a,0,none⟩) 1 [f]:=by
 refine ⟨rfl,fun _=>⟨a,0,rfl,d.lt,fun b i e=>?_⟩⟩;rw [zBi,d.cell b];rcases b with _ | b;exact e
 · simp at e
def aA {m w':World} {e:Nat} {a:TypeId} {l k:Nat} {d:Value} {n:List Value} (j:m.ownsRow e a l d k n) (s:∀c f,d.ownBlock=some c->Bk m c a f->Bk w' c a f):w'.ownsRow e a l d k n:=by
 refine ⟨j.1,?_⟩;rcases j.2 with b |⟨i,o,g,b,p,q,r⟩;exact .inl b;exact .inr ⟨i,o,g,b,p,s i g (by rw [b];rfl) q,r⟩
def tN {m d:World} {g:Nat} {c:TypeId} {l k i:Nat} {f:Option Addr} {n:List Value} (e:Made m g c l f k i n) (o:∀a b,Bk m a c b->Bk d a c b):Made d g c l f k i n:=by
 have j:=aA (w':=d) e.own fun a b _=>o a b;exact ⟨j,Rd.of_own j,e.cap,e.max⟩
structure VisF (F:Nat->Prop) (w w':World):Prop where
 os:w'.os=w.os
 tape:w'.tape=w.tape
 output:w'.output=w.output
 size:w.heap.size<=w'.heap.size
 block:∀b,b < w.heap.size->¬F b->w'.heap[b]?=w.heap[b]?∨(∃cs v,Bk w b 205 cs/\Bk w' b 205 (cs.setIfInBounds 3 (.int .i64 v)))∨(∃cs v,Bk w b 135 cs/\Bk w' b 135 (cs.setIfInBounds 10 (.int .i64 v)))
abbrev Vis:World->World->Prop:=VisF (fun _=>False)
def Vis.refl (a:World):Vis a a:=⟨rfl,rfl,rfl,zAs _,fun _ _ _=>.inl rfl⟩
def VisF.of_vis {d:Nat->Prop} {b c:World} (a:Vis b c):VisF d b c:=⟨a.os,a.tape,a.output,a.size,fun e f _=>a.block e f (fun g=>g)⟩
def VisF.of_keep {b:Nat->Prop} {c d:World} (a:Keep b c d):VisF b c d:=⟨a.os,a.tape,a.output,a.size,fun e f g=>.inl (a.block e f g)⟩
def VisF.to_vis {d:Nat->Prop} {c f:World} (b:VisF d c f) (g:∀a,a < c.heap.size->¬d a):Vis c f:=⟨b.os,b.tape,b.output,b.size,fun a e _=>b.block a e (g a e)⟩
def set_set (b:Array Value) (a:Nat) (d c:Value):(b.setIfInBounds a d).setIfInBounds a c=b.setIfInBounds a c:=by
 apply Array.ext
 · simp
 · intro g e f;simp [Array.getElem_setIfInBounds]
def aJ {i:World} {d:Nat} {f g:TypeId} {b c:Array Value} (e:Bk i d f b) (a:Bk i d g c):f=g/\b=c:=by
 unfold Bk at e a;rw [e] at a;injection a with a;injection a with h1 h2;exact ⟨h2,h1⟩
def VisF.trans {F:Nat->Prop} {o w1 p:World} (e:VisF F o w1) (g:VisF F w1 p):VisF F o p:=by
 refine ⟨g.os.trans e.os,g.tape.trans e.tape,g.output.trans e.output,zAk e.size g.size,fun j m n=>?_⟩;have q:j < w1.heap.size:=zAl m e.size;rcases e.block j m n with b |⟨f,l,b,c⟩|⟨f,l,b,c⟩<;> rcases g.block j q n with a |⟨k,i,a,d⟩|⟨k,i,a,d⟩;exact .inl (a.trans b);exact .inr (.inl ⟨k,i,b.symm.trans a,d⟩);exact .inr (.inr ⟨k,i,b.symm.trans a,d⟩);exact .inr (.inl ⟨f,l,b,a.trans c⟩);obtain ⟨_,rfl⟩:=aJ c a;rw [set_set] at d;exact .inr (.inl ⟨f,i,b,d⟩);exact absurd (aJ c a).1 dC;exact .inr (.inr ⟨f,l,b,a.trans c⟩);exact absurd (aJ c a).1 dC;obtain ⟨_,rfl⟩:=aJ c a;rw [set_set] at d;exact .inr (.inr ⟨f,i,b,d⟩)
def Vis.trans {a w1 b:World} (c:Vis a w1) (d:Vis w1 b):Vis a b:=VisF.trans c d
def Vis.of_below {b c:World} (a:Below b.heap.size b c):Vis b c:=⟨a.os,a.tape,a.output,a.size,fun d e _=>.inl (a.block d e)⟩
def Vis.set_tree {b:World} {a:Nat} {d:Array Value} (f:Bk b a 205 d) (g:Int):Vis b (b.setCell ⟨a,3,none⟩ (.int .i64 g)):=by
 refine ⟨rfl,rfl,rfl,by simp [World.setCell],fun c j _=>?_⟩;by_cases e:c=a;subst e;exact .inr (.inl ⟨d,g,f,f.set 3 _⟩);exact .inl (heap_setCell_other b ⟨a,3,none⟩ c _ (fun i=>e i))
def Vis.set_wave {b:World} {a:Nat} {d:Array Value} (f:Bk b a 135 d) (g:Int):Vis b (b.setCell ⟨a,10,none⟩ (.int .i64 g)):=by
 refine ⟨rfl,rfl,rfl,by simp [World.setCell],fun c j _=>?_⟩;by_cases e:c=a;subst e;exact .inr (.inr ⟨d,g,f,f.set 10 _⟩);exact .inl (heap_setCell_other b ⟨a,10,none⟩ c _ (fun i=>e i))
def VisF.put {F:Nat->Prop} {k w1:World} (b:VisF F k w1) {p:Addr} (c:F p.block∨k.heap.size<=p.block) (i:Value):VisF F k (w1.setCell p i):=by
 refine ⟨b.os,b.tape,b.output,by simpa [World.setCell] using b.size,fun d m l=>?_⟩;have f:(w1.setCell p i).heap[d]?=w1.heap[d]?:=heap_setCell_other w1 p d i (fun n=>by
  rcases c with c | c;rw [<-n] at c;exact l c
  · omega)
 rcases b.block d m l with a |⟨e,j,a,g⟩|⟨e,j,a,g⟩;exact .inl (f.trans a);exact .inr (.inl ⟨e,j,a,f.trans g⟩);exact .inr (.inr ⟨e,j,a,f.trans g⟩)
def Vis.fresh {a w1:World} (c:Vis a w1) {p:Addr} (d:a.heap.size<=p.block) (b:Value):Vis a (w1.setCell p b):=VisF.put c (.inr d) b
def Vis.alloc {a w1:World} (b:Vis a w1) (c:Obj):Vis a (w1.alloc c):=b.trans (Vis.of_below (bR.alloc nL _))
def Vis.below {a w1 b:World} (c:Vis a w1) (d:Below w1.heap.size w1 b):Vis a b:=c.trans (Vis.of_below d)
def VisF.bk {e:Nat->Prop} {g i:World} {b:Nat} {d:TypeId} {f:Array Value} (l:VisF e g i) (c:Bk g b d f) (m:d≠205) (n:d≠135) (o:¬e b):Bk i b d f:=by
 rcases l.block b c.lt o with a |⟨j,p,a,k⟩|⟨j,p,a,k⟩;exact a.trans c;exact absurd (aJ c a).1 m;exact absurd (aJ c a).1 n
def VisF.tree {e:Nat->Prop} {l m:World} {b:Nat} {f g i:Value} {k:Int} (o:VisF e l m) (c:Bk l b 205 #[f,g,i,.int .i64 k]) (p:¬e b):∃d,Bk m b 205 #[f,g,i,.int .i64 d]:=by
 rcases o.block b c.lt p with a |⟨n,d,a,j⟩|⟨n,d,a,j⟩;exact ⟨k,a.trans c⟩;obtain ⟨_,rfl⟩:=aJ c a;exact ⟨d,j⟩;exact absurd (aJ c a).1 dC
def VisF.wave {g:Nat->Prop} {j f:World} {b:Nat} {e:Array Value} (l:VisF g j f) (c:Bk j b 135 e) (m:¬g b):Bk f b 135 e∨∃d,Bk f b 135 (e.setIfInBounds 10 (.int .i64 d)):=by
 rcases l.block b c.lt m with a |⟨k,d,a,i⟩|⟨k,d,a,i⟩;exact .inl (a.trans c);exact absurd (aJ c a).1 dC;obtain ⟨_,rfl⟩:=aJ c a;exact .inr ⟨d,i⟩
def Vis.bk {d e:World} {c:Nat} {a:TypeId} {b:Array Value} (f:Vis d e) (j:Bk d c a b) (g:a≠205) (i:a≠135):Bk e c a b:=VisF.bk f j g i (fun k=>k)
def Vis.tree {e f:World} {d:Nat} {a b c:Value} {j:Int} (g:Vis e f) (i:Bk e d 205 #[a,b,c,.int .i64 j]):∃k,Bk f d 205 #[a,b,c,.int .i64 k]:=VisF.tree g i (fun l=>l)
def Vis.wave {d c:World} {b:Nat} {a:Array Value} (e:Vis d c) (f:Bk d b 135 a):Bk c b 135 a∨∃g,Bk c b 135 (a.setIfInBounds 10 (.int .i64 g)):=VisF.wave e f (fun i=>i)
def VisK (c:Nat->Prop) (a b:World):Prop:=Vis a b/\Keep c a b
def VisK.refl (b:Nat->Prop) (a:World):VisK b a a:=⟨Vis.refl a,Keep.refl b a⟩
def vR {b:Nat->Prop} {a:World}:VisK b a a:=VisK.refl b a
def VisK.trans {F:Nat->Prop} {c w1 d:World} (a:VisK F c w1) (b:VisK F w1 d):VisK F c d:=⟨a.1.trans b.1,a.2.trans b.2⟩
def VisK.below {F:Nat->Prop} {c w1 d:World} (a:VisK F c w1) (b:Below w1.heap.size w1 d):VisK F c d:=⟨a.1.trans (Vis.of_below b),a.2.trans (Keep.of_below b)⟩
def VisK.of_below {F:Nat->Prop} {a b:World} (c:Below a.heap.size a b):VisK F a b:=(VisK.refl F a).below c
def VisK.alloc {a:Nat->Prop} {b w1:World} (c:VisK a b w1) (d:Obj):VisK a b (w1.alloc d):=c.below (bR.alloc nL _)
def VisK.set_tree {c:World} {a:Nat} {e:Array Value} (f:Bk c a 205 e) (d:Int):VisK (fun b=>b=a) c (c.setCell ⟨a,3,none⟩ (.int .i64 d)):=⟨Vis.set_tree f d,Keep.setCell (F:=fun b=>b=a) (Keep.refl _ _) (p:=⟨a,3,none⟩) (.inl rfl) _⟩
def VisK.mono {F G:Nat->Prop} {c d:World} (b:VisK F c d) (e:∀a,F a->G a):VisK G c d:=⟨b.1,b.2.mono fun a _=>e a⟩
def Vis.own {f g:World} {b:Nat} {a:TypeId} {d c:Nat} {e:Value} {i:List Value} (n:Vis f g) (j:f.ownsRow b a d e c i) (k:a≠205) (l:a≠135):g.ownsRow b a d e c i:=
 aA j fun o p _ m=>n.bk m k l
def Vis.made {g i:World} {c:Nat} {a:TypeId} {f e d:Nat} {b:Option Addr} {j:List Value} (o:Vis g i) (k:Made g c a f b e d j) (l:a≠205) (m:a≠135):Made i c a f b e d j:=
 tN k fun p q n=>o.bk n l m
def RdT (k:World) (j:TypeId) (i:Option Addr) (d:Nat) (g:List Value):Prop:=
 g.length=d/\(0 < d->∃a e b,i=some ⟨a,e,none⟩/\Bk k a j b/\∀c f,g[c]?=some f->b[e+c]?=some f)
def RdT.rd {a:World} {o:TypeId} {b:Option Addr} {e:Nat} {f:List Value} (c:RdT a o b e f):Rd a a.heap.size 1 b e f:=by
 refine ⟨by rw [c.1,zBl],fun k=>?_⟩;obtain ⟨g,n,q,i,d,j⟩:=c.2 k;exact ⟨g,n,i,d.lt,fun m p l=>(d.cell _).trans (j m p l)⟩
def RdT.same {g w':World} {c:TypeId} {d:Option Addr} {f:Nat} {i:List Value} (e:RdT g c d f i) (n:∀a b,Bk g a c b->Bk w' a c b):RdT w' c d f i:=by
 refine ⟨e.1,fun m=>?_⟩;obtain ⟨a,o,b,j,k,l⟩:=e.2 m;exact ⟨a,o,b,j,n a b k,l⟩
def sv (a:Nat):Value:=.int .i64 (a:Int)
def fN:(prog.info? 3).map (fun a=>(a.zero,a.size,a.bytes))=some (some (.int .i64 0),1,8):=by kernel_rfl
def aAv {d:World} {B a n:Nat} {c:TypeId} {b:List Value} (i:Bk d a c b.toArray) (hB:B<=a) (f:b.length=n) (e:n<=maxLen):Made d B c 1 (some ⟨a,0,none⟩) n n b:=by
 have g:d.ownsRow B c 1 (.slice (some a) n n) n b:=⟨by omega,.inr ⟨a,n,b.toArray,rfl,hB,i,zAs _,e,by simp [f],by rw [zBl,zAg (by simp [f])]⟩⟩;exact ⟨g,Rd.of_own g,zAs _,e⟩
def aBF (a:Nat) (j:a<=1000000) (b:World):(Instr.makeSlice 138 (.int .i64 (a:Int)) (.int .i64 (a:Int))).run prog b=.ok (.slice (some b.heap.size) a a) (b.alloc (.cells (Array.replicate a (.bool false)) 4)):=by
 obtain ⟨i,d,e,f,g⟩:=info_parts iO;have:=run_make (P:=prog) b 138 4 i (.bool false) underlying138 d e .i64 .i64 a a oM (Int.le_refl _) (by rw [g];omega) oM;rw [this,f];have c:madeCells #[.bool false] a=Array.replicate a (.bool false):=by apply Array.ext';rw [toList_madeCells_one];simp
 simp only [Value.cells,zBr,zBl];rw [c]
end
section
def aI {α:Type} (b:List α) (a:Nat) (c:α):List α:=b.take a++c::b.drop a
def aC {α:Type} (b:List α) (a:Nat):List α:=b.take a++b.drop (a+1)
def bB {α:Type} (a:List α) {b:Nat} (c:α) (d:b<=a.length):(aI a b c).length=a.length+1:=by
 unfold aI;rw [zAi,zAj,zCf,zAw];omega
def bF {α:Type} (a:List α) {k:Nat} (b:k < a.length):(aC a k).length+1=a.length:=by
 unfold aC;rw [zAi,zAj,zAw];omega
def fO {α:Type} (c:List α) {a:Nat} (g:α) (j:a<=c.length) (b:Nat):(aI c a g)[b]?=if b < a then c[b]? else if b=a then some g else c[b - 1]?:=by
 unfold aI;have i:(c.take a).length=a:=by rw [zAj];omega
 by_cases e:b < a
 · rw [zBx e,zAn oM,zBs,zBx e]
 · rw [zBw e,zAo oM,i];by_cases f:b=a;subst f;rw [zBx rfl,Nat.sub_self];rfl
   · rw [zBw f];obtain ⟨d,rfl⟩:∃d,b=a+d+1:=⟨b - a - 1,by omega⟩;rw [show a+d+1 - a=d+1 by omega,List.getElem?_cons_succ,zBt];congr 1
def cY {α:Type} (c:List α) {a:Nat} (f:a < c.length) (b:Nat):(aC c a)[b]?=if b < a then c[b]? else c[b+1]?:=by
 unfold aC;have e:(c.take a).length=a:=by rw [zAj];omega
 by_cases d:b < a
 · rw [zBx d,zAn oM,zBs,zBx d]
 rw [zBw d,zAo oM,e,zBt];congr 1;omega
def jV {α β:Type} (a:α->β) (c:List α) (b:Nat) (d:α):(aI c b d).map a=aI (c.map a) b (a d):=by simp [aI]
def mV {α β:Type} (a:α->β) (c:List α) (b:Nat):(aC c b).map a=aC (c.map a) b:=by simp [aC]
def dQ {α:Type} (a:List α) (c:Nat) (b:α):(aI a c b).Perm (b::a):=by
 unfold aI;exact (List.perm_middle).trans (by rw [zAu])
def dG {α:Type} {a:List α} {b:Nat} {c:α} (e:a[b]?=some c):(c::aC a b).Perm a:=by
 obtain ⟨f,g⟩:=zAc.1 e;have d:a=a.take b++c::a.drop (b+1):=by rw [<-g,<-zAx f,zAu]
 unfold aC;exact (List.perm_middle.symm).trans (by rw [<-d])
def lA (b:List Bool) {c:Nat} (d:Bool) (e:c<=b.length) (a:Nat):(aI b c d).getD a false=if a < c then b.getD a false else if a=c then d else b.getD (a - 1) false:=by
 rw [zAb,fO b d e];split
 · rw [zAb]
 · split;rfl
   · rw [zAb]
def lF (a:List Bool) {c:Nat} (d:c < a.length) (b:Nat):(aC a c).getD b false=if b < c then a.getD b false else a.getD (b+1) false:=by
 rw [zAb,cY a d];split
 · rw [zAb]
 · rw [zAb]
def aBv (d:List Bool) (c b:Nat):(d.take c).getD b false=(decide (b < c)&&d.getD b false):=by
 rw [zAb,zBs];by_cases a:b < c
 · rw [zBx a,zAb];simp [a]
 · rw [zBw a];simp [a]
def aBZ (b:List Bool) (c a:Nat):(b.drop c).getD a false=b.getD (c+a) false:=by
 rw [zAb,zBt,zAb]
end
end Go.Proofs.YtnmapianpjamnaaGreatDoor
