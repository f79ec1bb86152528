/- Lemmas of the walk. Conditions: each its own. -/
import Derived.Test.YtnmapianpjamnaaGreatDoorPk0
import Derived.Test.YtnmapianpjamnaaGreatDoorProg
set_option linter.all false
set_option maxRecDepth 100000
set_option maxHeartbeats 1000000
namespace Go.Proofs.YtnmapianpjamnaaGreatDoor
open Tryz
section
open Go.RowKit
def uO (a b:Nat) (e:a < 18446744073709551616) (f:b < 18446744073709551616):bits .and .u64 (a:Int) (b:Int)=((a&&& b:Nat):Int):=
 (bits_nat .u64 64 dC (fun g c d=>by rw [IntKind.wrap_u64];omega) a b oM oM).1
def qU (a b d c:Nat) (j:a < 18446744073709551616) (i:d < 18446744073709551616) (g:2 ^ b=c):bits .and .u64 ((a:Int)/(c:Int)) (d:Int)=((a >>> b&&& d:Nat):Int):=by
 have e:((a:Int)/(c:Int))=((a >>> b:Nat):Int):=by rw [Nat.shiftRight_eq_div_pow,g];push_cast;rfl
 have f:a >>> b < 18446744073709551616:=by rw [Nat.shiftRight_eq_div_pow];exact Nat.lt_of_le_of_lt (Nat.div_le_self _ _) j
 rw [e,uO _ _ f i]
def pM (a:Nat) (v:a < 18446744073709551616) (E:World):
 Calls prog 290 #[.int .u64 (a:Int)] E fun I L=>I=.returned (.int .i64 ((aI a 64:Nat):Int))/\E=L:=by
 obtain ⟨q,l⟩:∃c,c=a >>> 1&&& 6148914691236517205:=⟨_,rfl⟩;obtain ⟨r,m⟩:∃c,c=a&&& 6148914691236517205:=⟨_,rfl⟩;have b1:q<=6148914691236517205:=by rw [l];exact Nat.and_le_right
 have b2:r<=6148914691236517205:=by rw [m];exact Nat.and_le_right
 obtain ⟨d,y⟩:∃b,b=q+r:=⟨_,rfl⟩;obtain ⟨s,n⟩:∃c,c=d >>> 2&&& 3689348814741910323:=⟨_,rfl⟩;obtain ⟨t,o⟩:∃c,c=d&&& 3689348814741910323:=⟨_,rfl⟩;have F:s<=3689348814741910323:=by rw [n];exact Nat.and_le_right
 have G:t<=3689348814741910323:=by rw [o];exact Nat.and_le_right
 obtain ⟨e,z⟩:∃b,b=s+t:=⟨_,rfl⟩;obtain ⟨j,u⟩:∃K,K=e >>> 4+e:=⟨_,rfl⟩;have J:j=e / 16+e:=by rw [u,Nat.shiftRight_eq_div_pow]
 obtain ⟨f,p⟩:∃b,b=j&&& 1085102592571150095:=⟨_,rfl⟩;have H:f<=1085102592571150095:=by rw [p];exact Nat.and_le_right
 obtain ⟨g,A⟩:∃b,b=f+f / 256:=⟨_,rfl⟩;obtain ⟨i,B⟩:∃b,b=g+g / 65536:=⟨_,rfl⟩;obtain ⟨k,C⟩:∃b,b=i+i / 4294967296:=⟨_,rfl⟩;have x:f=sY a:=by rw [p,u,z,n,o,y,l,m];rfl
 obtain ⟨w,O⟩:=aDw a v g i k (by rw [<-x];exact A) B C;have S:bits .and .u64 ((a:Int)/ 2) 6148914691236517205=(q:Int):=by rw [l];exact qU a 1 6148914691236517205 2 v oM dC
 have V:bits .and .u64 (a:Int) 6148914691236517205=(r:Int):=by rw [m];exact uO a 6148914691236517205 v oM
 have W:IntKind.u64.wrap ((q:Int)+(r:Int))=(d:Int):=by rw [IntKind.wrap_u64];omega
 have X:bits .and .u64 ((d:Int)/ 4) 3689348814741910323=(s:Int):=by rw [n];exact qU d 2 3689348814741910323 4 oM oM dC
 have Y:bits .and .u64 (d:Int) 3689348814741910323=(t:Int):=by rw [o];exact uO d 3689348814741910323 oM oM
 have Z:IntKind.u64.wrap ((s:Int)+(t:Int))=(e:Int):=by rw [IntKind.wrap_u64];omega
 have a0:IntKind.u64.wrap ((e:Int)/ 16+(e:Int))=(j:Int):=by rw [IntKind.wrap_u64];omega
 have a1:bits .and .u64 (j:Int) 1085102592571150095=(f:Int):=by rw [p];exact uO j 1085102592571150095 oM oM
 have a2:IntKind.u64.wrap ((f:Int)+(f:Int)/ 256)=(g:Int):=by rw [IntKind.wrap_u64];omega
 have T:IntKind.u64.wrap ((g:Int)+(g:Int)/ 65536)=(i:Int):=by rw [IntKind.wrap_u64];omega
 have U:IntKind.u64.wrap ((i:Int)+(i:Int)/ 4294967296)=(k:Int):=by rw [IntKind.wrap_u64];omega
 have R:k < 9223372036854775808:=oM;have D:bits .and .i64 (k:Int) 127=((aI a 64:Nat):Int):=by have:=bits_mask .i64 63 dC (fun a3 M N=>by rw [IntKind.wrap_i64];omega) 7 dC (k:Int) oM oM;rw [show ((2:Int)^ 7 - 1)=127 by decide,show ((2:Int)^ 7)=128 by decide] at this;rw [this,<-w];omega
 clear l m y n o z u J p A B C x w b1 b2 F G H;go_enter func290,ntmps290;go_wp2;go_ret;exact ⟨cZ (by first | exact D | simp [D]),rfl⟩
def aBa (d a c:Nat) (f:a<=c):aI (d % 2 ^ a) c=aI d a:=by
 obtain ⟨b,rfl⟩:∃b,c=a+b:=⟨c - a,by omega⟩;rw [tU,tT];have:(d % 2 ^ a)>>> a=0:=by rw [Nat.shiftRight_eq_div_pow];exact Nat.div_eq_of_lt (Nat.mod_lt _ (Nat.two_pow_pos a))
 rw [this];have e:∀b,aI 0 b=0:=fun b=>by unfold aI;simp
 rw [e];rfl
def wQ (b:Nat) (a:Int):Nat:=b % 2 ^(min a.toNat 64)
def uvn (a:Nat):Value:=.int .u64 (a:Int)
def aCi (d:Nat) (c:Int) (y:d < 18446744073709551616) (v:-9223372036854775808<=c/\c<=9223372036854775807) (g:World):
 Calls prog 287 #[.int .u64 (d:Int),.int .i64 c] g fun i o=>i=.returned (.int .u64 ((wQ d c:Nat):Int))/\g=o:=by
 unfold wQ;by_cases f:c<=0
 · have j:d % 2 ^(min c.toNat 64)=0:=(by rw [show c.toNat=0 by omega];simp [Nat.mod_one]);rw [j];go_enter func287,ntmps287;go_wp2;go_ret;exact ⟨rfl,rfl⟩
 · by_cases m:c>=64
   · have k:d % 2 ^(min c.toNat 64)=d:=(by rw [show min c.toNat 64=64 by omega];exact zBt oM);rw [k];have s:¬(c<=0):=f;go_enter func287,ntmps287;go_wp2;go_ret;exact ⟨rfl,rfl⟩
   · obtain ⟨b,rfl⟩:∃b:Nat,c=(b:Int):=⟨c.toNat,by omega⟩;have n:b < 64:=oM;have p:decide ((b:Int)<=0)=false:=(by simp;omega);have q:decide ((b:Int)>=64)=false:=(by simp;omega);have l:min (b:Int).toNat 64=b:=oM;rw [l];have w:2 ^ b < 18446744073709551616:=(by have:=Nat.pow_lt_pow_right (a:=2) dC n;omega);have e:((2:Int)^ b)=((2 ^ b:Nat):Int):=(by push_cast;rfl);have x:=Nat.two_pow_pos b;have r:IntKind.u64.wrap ((2:Int)^ b)=(2:Int)^ b:=(by rw [e,IntKind.wrap_u64];omega);have t:IntKind.u64.wrap ((2:Int)^ b - 1)=(2:Int)^ b - 1:=(by rw [e,IntKind.wrap_u64];omega);have u:bits .and .u64 (d:Int) ((2:Int)^ b - 1)=(d:Int)% 2 ^ b:=bits_mask .u64 64 dC (fun z f m=>by rw [IntKind.wrap_u64];omega) b oM (d:Int) oM oM;clear e;go_enter func287,ntmps287;go_wp2;go_ret;exact ⟨by first | rfl | simp,rfl⟩
def eD (k:Option Addr) (d B w:Nat) (c:List Nat) (f:World) (g:Rd f w 1 k d (c.map uvn)) (p:∀G∈c,G < 18446744073709551616) (N:d<=1048576):
 Calls prog 283 #[.slice k d B] f fun m v=>m=.returned (.int .i64 (((c.map fun b=>aI b 64).sum:Nat):Int))/\f=v:=by
 have r:c.length=d:=by simpa using g.1
 obtain ⟨A,y,l⟩:=hqq3 g p r;have n:∀a,((c.take a).map fun b=>aI b 64).sum<=a*64:=fun a=>by
  induction a with
  | zero=>simp
  | succ a F=>
    by_cases o:a < c.length;rw [List.take_succ_eq_append_getElem o,zAz,List.sum_append];have:=jC c[a] 64;simp only [List.map_cons,List.map_nil,List.sum_cons,List.sum_nil];omega;rw [zAg oM];rw [zAg oM] at F;omega
 have x:=lhd n;clear g p r n;go_enter func283,ntmps283;go_wp2;go_loopw [3,8] (fun H j wr=>∃a:Nat,a<=d/\j=.int .i64 a/\H=.int .i64 ((((c.take a).map fun b=>aI b 64).sum:Nat):Int)/\f=wr) (fun _ j _=>d -(intOf j).toNat)
 case atStart=>exact ⟨0,zAp _,rfl,by simp,rfl⟩
 case round=>
  obtain ⟨a,o,rfl,rfl,rfl⟩:=hrel;by_cases s:a < d
  · have D:a < c.length:=(by rw [l.out];exact s);obtain ⟨b,e⟩:∃b,c[a]?=some b:=⟨c[a],zAa D⟩;obtain ⟨I,O,R,rfl,L,i,C⟩:=A.out.get s;rw [zAf,e] at i;simp at i;subst i;unfold uvn at C;have E:=y.out b (zAd e);have t:((c.take (a+1)).map fun b=>aI b 64).sum=((c.take a).map fun b=>aI b 64).sum+aI b 64:=(by rw [zAv,e];simp);have K:=x.out a;have J:=jC b 64;generalize ((c.take a).map fun b=>aI b 64).sum=q at*
    have z:=lhd t;clear t e;go_wp2_with fail;refine (pM b E _).mono ?_;rintro m v ⟨rfl,rfl⟩;go_wp2;go_roundw
    case rel=>exact ⟨a+1,by omega,by go_num,by rw [z.out];go_num,trivial⟩
    case measure=>simp [intOf];omega
  · have M:d<=a:=oM;have u:c.take a=c:=zAg (by have:=l.out;omega);rw [u];clear u;go_wp2;go_ret;exact ⟨rfl,rfl⟩
def oC (b:Nat) (a:Int):Nat:=aI b (min a.toNat 64)
def lQ (a:Nat) (b:Int) (f:a < 18446744073709551616) (i:-9223372036854775808<=b/\b<=9223372036854775807) (d:World):
 Calls prog 273 #[.int .u64 (a:Int),.int .i64 b] d fun c e=>c=.returned (.int .i64 ((oC a b:Nat):Int))/\Below d.heap.size d e:=by
 have j:wQ a b < 18446744073709551616:=by unfold wQ;exact Nat.lt_of_le_of_lt (Nat.mod_le _ _) f
 have g:aI (wQ a b) 64=oC a b:=aBa a _ 64 (Nat.min_le_right _ _);go_enter func273,ntmps273;go_wp2_with fail;refine (aCi a b f i _).mono ?_;rintro c e ⟨rfl,rfl⟩;go_wp2_with fail;refine (eD _ 1 1 _ [wQ a b] _ (Rd.made _ _ 1 1 _ rfl) (by simpa using j) oM).mono ?_;rintro c e ⟨rfl,rfl⟩;have k:(([wQ a b].map fun a=>aI a 64).sum)=oC a b:=by simp [g]
 rw [k];go_wp2_with fail;go_ret;exact ⟨rfl,bR.alloc nL _⟩
end
section
def fT:List Bool->Nat
 | []=>0
 | b::l=>(if b then 1 else 0)+2*fT l
def nJ (a:List Bool):fT a < 2 ^ a.length:=by
 induction a with
 | nil=>simp [fT]
 | cons b a c=>
   simp only [fT,zCe,Nat.pow_succ];cases b <;> simp <;> omega
def fJ (b:List Bool) (a:Nat):(fT b).testBit a=b.getD a false:=by
 induction b generalizing a with
 | nil=>simp [fT]
 | cons c b e=>
   cases a with
   | zero=>
     simp only [fT,List.getD_cons_zero,Nat.testBit_zero];cases c <;> simp <;> omega
   | succ a=>
     have d:((if c then 1 else 0)+2*fT b)/ 2=fT b:=(by cases c <;> simp <;> omega);simp only [fT,List.getD_cons_succ,Nat.testBit_succ,d];exact e a
def uE (a b:List Bool):fT (a++b)=fT a+2 ^ a.length*fT b:=by
 induction a with
 | nil=>simp [fT]
 | cons d a c=>
   simp only [List.cons_append,fT,c,zCe,Nat.pow_succ];cases d <;> simp <;> rw [Nat.mul_add,<-Nat.mul_assoc,Nat.mul_comm 2 (2 ^ a.length)] <;> omega
def jG (b:List Bool) (a:Nat):aI (fT b) a=(b.take a).count true:=by
 induction a with
 | zero=>simp [jB]
 | succ a e=>
   rw [bV,e,fJ,zAv,zCb];cases c:b[a]? with
   | none=>simp [zAb,c]
   | some d=>cases d <;> simp [zAb,c]
def qG (b:List Bool) (a:Bool):fT (b++ [a])=fT b+if a then 2 ^ b.length else 0:=by
 rw [uE];cases a <;> simp [fT]
def aA9 (a b:Nat) (c:a < 2 ^ b):a||| 2 ^ b=a+2 ^ b:=by
 have:=Nat.two_pow_add_eq_or_of_lt c 1;rw [zBl] at this;rw [Nat.or_comm,<-this,zCo]
def w0 (a:List Bool):Nat:=fT (a.take 64)
def w1 (a:List Bool):Nat:=fT (a.drop 64)
def nP (a:List Bool):w0 a < 18446744073709551616:=by
 have c:=nJ (a.take 64);have b:(a.take 64).length<=64:=by rw [zAj];omega
 have d:=zBo (n:=2) dC b;unfold w0;omega
def nO (a:List Bool) (e:a.length<=128):w1 a < 18446744073709551616:=by
 have c:=nJ (a.drop 64);have b:(a.drop 64).length<=64:=by rw [zAw];omega
 have d:=zBo (n:=2) dC b;unfold w1;omega
def aCO (a:List Bool) (b:a.length<=128):aI (w0 a) 64+aI (w1 a) 64=a.count true:=by
 unfold w0 w1;rw [jG,jG,List.take_take,Nat.min_self,zAg (l:=a.drop 64) (by rw [zAw];omega),<-zCb,zAu]
def aCN (b:List Bool) (a:Nat) (g:b.length<=128) (f:a<=b.length):aI (w0 b) (min a 64)+aI (w1 b) (min (a - 64) 64)=(b.take a).count true:=by
 unfold w0 w1;rw [jG,jG,List.take_take];rcases zBe a 64 with e | e
 · have c:min (min a 64) 64=a:=oM;have d:min (a - 64) 64=0:=oM;rw [c,d,List.take_zero,List.count_nil,zBp]
 have c:min (min a 64) 64=64:=oM;have d:min (a - 64) 64=a - 64:=oM;rw [c,d,<-zCb];congr 1;rw [<-zAu 64 (b.take a),List.take_take,List.drop_take];congr 2;omega
def pR (a:List Bool) (b:Bool) (c:a.length < 64):w0 (a++ [b])=w0 a+(if b then 2 ^ a.length else 0)/\w1 (a++ [b])=w1 a:=by
 unfold w0 w1;rw [zAg (by simp;omega),zAg oM,List.drop_of_length_le (by simp;omega),List.drop_of_length_le oM];exact ⟨qG a b,rfl⟩
def pS (a:List Bool) (b:Bool) (c:64<=a.length):w0 (a++ [b])=w0 a/\w1 (a++ [b])=w1 a+(if b then 2 ^(a.length - 64) else 0):=by
 unfold w0 w1;rw [List.take_append_of_le_length c,List.drop_append_of_le_length c,qG,zAw];exact ⟨rfl,rfl⟩
def aAF (a:List Bool) (b:a.length < 64):w0 a < 2 ^ a.length:=by
 unfold w0;rw [zAg oM];exact nJ a
def aAD (a:List Bool):w1 a < 2 ^(a.length - 64):=by
 unfold w1;have:=nJ (a.drop 64);rwa [zAw] at this
end
section
open Go.RowKit Go
def bY (d:Operand->Value) (c:List Nat) (b:Act):Act:=c.foldl (fun e a=>e.put (some a) (d (.tmp a))) b
def zqq:(∀(f:Operand->Value) (d:Nat) (j:List Nat) (e:Act),bY f (d::j) e=bY f j (e.put (some d) (f (.tmp d))))/\(∀(f:Operand->Value) (e:Act),bY f [] e=e)/\(∀k i d l,Act.put ⟨k,i⟩ (some d) l=⟨k.setIfInBounds d l,i⟩)/\(∀(a:List Value) g c,a.toArray.setIfInBounds g c=(a.set g c).toArray)/\(∀(a:List Value) c b,(c::a).set 0 b=b::a)/\∀(a:List Value) c b n,(c::a).set (n+1) b=c::a.set n b:=⟨fun _ _ _ _=>rfl,fun _ _=>rfl,fun _ _ _ _=>rfl,fun a g c=>List.setIfInBounds_toArray a g c,fun _ _ _=>rfl,fun _ _ _ _=>rfl⟩
def aB5 (c:Act) (e:List Nat) (a:Act) (m:c.tmps.size=a.tmps.size):
 (bY c.eval e a).tmps.size=a.tmps.size/\(bY c.eval e a).defers=a.defers/\
 ∀b,(bY c.eval e a).tmps.getD b undef=if b∈e then c.tmps.getD b undef else a.tmps.getD b undef:=by
 induction e generalizing a with
 | nil=>exact ⟨rfl,rfl,fun b=>by simp [bY]⟩
 | cons d e q=>
   have g:(a.put (some d) (c.eval (.tmp d))).tmps.size=a.tmps.size:=(by simp [Act.put]);obtain ⟨n,o,p⟩:=q (a.put (some d) (c.eval (.tmp d))) (by rw [g];exact m);refine ⟨n.trans g,o,fun b=>?_⟩;have k:=p b;change (bY c.eval e (a.put (some d) (c.eval (.tmp d)))).tmps.getD b undef=_;rw [k];by_cases ht:b∈e
   · rw [zBw ht,zBw (List.mem_cons_of_mem _ ht)]
   · rw [zBv ht];by_cases f:b=d
     · subst f;rw [zBw (List.mem_cons_self ..)];by_cases i:b < a.tmps.size
       · simp [Act.put,zAm,i,Act.eval]
       · have l:¬b < c.tmps.size:=oM;simp [Act.put,zAm,i,l]
     · rw [zBv (by simp [f,ht])];have:d≠b:=fun j=>f j.symm;simp [Act.put,zAm,this]
def iK (a b:Act) (c:List Nat) (n:a.tmps.size=b.tmps.size) (i:a.defers=b.defers) (p:∀g,g∉c->a.tmps.getD g undef=b.tmps.getD g undef):a=bY a.eval c b:=by
 obtain ⟨s,k,t⟩:=aB5 a c b n;have l:a.tmps=(bY a.eval c b).tmps:=by
  apply Array.ext
  · rw [s,n]
  · intro d q r;have:=t d;have o:(bY a.eval c b).tmps.getD d undef=(bY a.eval c b).tmps[d]:=(by simp [zAm,r]);have m:a.tmps.getD d undef=a.tmps[d]:=(by simp [zAm,q]);rw [o] at this;rw [this];by_cases j:d∈c
    · rw [zBw j,m]
    · rw [zBv j,<-p d j,m]
 cases e:a with
 | mk g u=>
   cases f:bY a.eval c b with
   | mk w v=>
     rw [e] at f;rw [f];rw [e,f] at l;rw [e,f] at k;rw [e] at i;simp only at l k i;rw [l,i,k]
section
variable {P : Program} {ops : Array Oper} {Q : Exit -> Act -> World -> Prop} {md : Region.Mode}
def cX (l:List Nat) (b:World->World->Prop) (g:Nat->Value->World->Prop) (e:Act) (c:World)
 (u:ops.toList.filterMap (·.dst)=l)
 (w:eQ md ops e.tmps.size=true) (z:b c c) (D:∀a i,b c a->b a i->b c i) (A:∀d r a i,g d r a->b a i->g d r i)
 (B:∀q k,ops[q]?=some k->cG P ops Q md b g e c q k)
 (v:∀(o:Operand->Value) a,b c a->(∀d j,((ops[d]?).bind (·.dst))=some j->g d (o (.tmp j)) a)->Q .normal (bY o l e) a):
 wpAny P md ops Q ops.size (Array.replicate ops.size false) e c:=by
 refine sQ b g e c w z D A B fun n a s C t x E=>?_;have p:=v n.eval a s fun d j f=>by
  cases m:ops[d]? with
  | none=>rw [m] at f;cases f
  | some k=>rw [m] at f;exact E d k j m f
 rw [<-iK n e l C t fun G ht=>x G fun H F y f=>ht ?_] at p;exact p;rw [<-u];exact List.mem_filterMap.2 ⟨F,Array.mem_toList_iff.2 (Array.mem_of_getElem? y),f⟩
end
section
variable {P : Program} {ops : Array Oper} {Q : Exit -> Act -> World -> Prop} {md : Region.Mode}
def oQ (md:Region.Mode) (ops:Array Oper) (b c:Nat):Bool:=match ops[b]? with
 | some d=>d.after.toList.any (fun a=>Region.binds md a&&a.on==c)
 | none=>false
def bQ (P:Program) (ops:Array Oper) (Q:Exit->Act->World->Prop) (md:Region.Mode) (o:World->Prop) (p:Nat->World->World->Prop) (q:Nat->World->Prop) (j:Nat->Value->World->Prop) (d:Act) (b:Nat) (l:Oper):Prop:=
 ∀a c,o c->q b c->a.tmps.size=d.tmps.size->a.defers=d.defers->
    (∀f,kX md ops b f=true->a.tmps.getD f undef=d.tmps.getD f undef)->
    (∀e∈l.after,Region.binds md e=true->∀m k,ops[e.on]?=some m->m.dst=some k->j e.on (a.tmps.getD k undef) c)->
    ∀i:Act->World->Prop,(∀n g,p b c g->j b n g->i (a.put l.dst n) g)->wpOp P ops Q b i a c
def gY {q:World->Prop} {r:Nat->World->World->Prop} {s:Nat->World->Prop} {n:Nat->Value->World->Prop} {t:Act} {e:Nat} {a:Oper} (E:ops[e]?=some a) (C:a.guard=none)
 (w:∀d:Operand->Value,∀c,q c->s e c->(∀i,d (.const i)=i)->(∀u,d (.func u)=.func (.func u) #[] #[])->(∀g,kX md ops e g=true->d (.tmp g)=t.eval (.tmp g))->
  (∀m k,a.after.toList.any (fun f=>Region.binds md f&&f.on==m)=true->((ops[m]?).bind (·.dst))=some k->n m (d (.tmp k)) c)->
  ∀b j,b.eval=d->(∀i p,r e c p->n e i p->j (b.put a.dst i) p)->Oper.upon P a b j Q ((execOp d a).run P c)):bQ P ops Q md q r s n t e a:=by
 intro b c z A K J F G j y;unfold wpOp;simp only [E];have H:Region.wanted a (yielded ops b.tmps)=true:=by unfold Region.wanted;rw [C]
 rw [zBw H];refine .inl (w b.eval c z A (fun _=>rfl) (fun _=>rfl) (fun g ht=>F g ht) (fun m k D l=>?_) b j rfl y);obtain ⟨f,B,v⟩:=List.any_eq_true.1 D;simp only [zBd,zCn] at v;obtain ⟨x,rfl⟩:=v;cases o:ops[f.on]? with
 | none=>rw [o] at l;cases l
 | some I=>rw [o] at l;exact G f (Array.mem_toList_iff.1 B) x I k o l
def sC3 {P:Program} {ops:Array Oper} {Q:Exit->Act->World->Prop} {md:Region.Mode} {C:World->Prop} {S:Nat->World->World->Prop} {U:Nat->World->Prop} {V:Nat->Value->World->Prop} {a0:Act} {k:Nat} {o:Oper} {l:List Oper} (h:∀ev:Operand->Value,∀w,C w->U k w->(∀v,ev (.const v)=v)->(∀f,ev (.func f)=.func (.func f) #[] #[])->(∀t,kX md ops k t=true->ev (.tmp t)=a0.eval (.tmp t))->(∀i d,o.after.toList.any (fun e=>Region.binds md e&&e.on==i)=true->((ops[i]?).bind (·.dst))=some d->V i (ev (.tmp d)) w)->∀a K,a.eval=ev->(∀v w',S k w w'->V k v w'->K (a.put o.dst v) w')->Oper.upon P o a K Q ((execOp ev o).run P w)) (hl:∀j p,l[j]?=some p->bQ P ops Q md C S U V a0 (k+1+j) p) (ho:ops[k]?=some o:=by rfl) (hg:o.guard=none:=by rfl):∀j p,(o::l)[j]?=some p->bQ P ops Q md C S U V a0 (k+j) p:=aB (gY ho hg h) hl
def pL3 {P:Program} {ops:Array Oper} {Q:Exit->Act->World->Prop} {md:Region.Mode} {n:World->Prop} {o:Nat->World->World->Prop} {s:Nat->World->Prop} {l:Nat->Value->World->Prop} {t:Act} {j:Nat} {e:Oper} {y:List Oper} {d:Addr} {z:Value} (m p:Nat) (w:∀a,n a->a.cell? d=some z) (H:∀i d,y[i]?=some d->bQ P ops Q md n o s l t (j+1+i) d) (I:ops[j]?=some e:=by rfl) (F:e.guard=none:=by rfl) (D:e.after.toList.any (fun q=>Region.binds md q&&q.on==m)=true:=by kernel_rfl) (E:((ops[m]?).bind (·.dst))=some p:=by rfl) (B:∀(b:Operand->Value) (a:World),(∀k,b (.const k)=k)->(∀u,b (.func u)=.func (.func u) #[] #[])->l m (b (.tmp p)) a->a.cell? d=some z->∀(f:Act) (g:Act->World->Prop),f.eval=b->(∀k r,o j a r->l j k r->g (f.put e.dst k) r)->Oper.upon P e f g Q ((execOp b e).run P a):=by (intro b a w x A K f g v c;have q:_=_:=A;go_simp;first|exact kq c rfl|exact c _ _ (VisK.refl _ _) rfl|exact c _ _ (Below.refl _ _) rfl|exact c _ _ (aD (VisK.refl _ _)) rfl|exact c _ _ (py_low (by decide) (by decide) (Below.refl _ _)) rfl|exact c _ _ (tr_low (by decide) (by decide) (by decide) (Below.refl _ _)) rfl)):∀i d,(e::y)[i]?=some d->bQ P ops Q md n o s l t (j+i) d:=aB (gY I F fun b a C _ G x L J f g v c=>B b a G x (J m p D E) (w a C) f g v c) H
def pW3 {P:Program} {ops:Array Oper} {Q:Exit->Act->World->Prop} {md:Region.Mode} {C:World->Prop} {S:Nat->World->World->Prop} {U:Nat->World->Prop} {V:Nat->Value->World->Prop} {a0:Act} {k:Nat} {o:Oper} {l:List Oper} (i d j c:Nat) (hl:∀j p,l[j]?=some p->bQ P ops Q md C S U V a0 (k+1+j) p) (ho:ops[k]?=some o:=by rfl) (hg:o.guard=none:=by rfl) (hb:o.after.toList.any (fun e=>Region.binds md e&&e.on==i)=true:=by kernel_rfl) (hd:((ops[i]?).bind (·.dst))=some d:=by rfl) (hb2:o.after.toList.any (fun e=>Region.binds md e&&e.on==j)=true:=by kernel_rfl) (hd2:((ops[j]?).bind (·.dst))=some c:=by rfl) (h:∀(ev:Operand->Value) (w:World),(∀v,ev (.const v)=v)->(∀f,ev (.func f)=.func (.func f) #[] #[])->V i (ev (.tmp d)) w->V j (ev (.tmp c)) w->∀(a:Act) (K:Act->World->Prop),a.eval=ev->(∀v w',S k w w'->V k v w'->K (a.put o.dst v) w')->Oper.upon P o a K Q ((execOp ev o).run P w):=by (intro ev w hc hf e0 f0 a K ha hK;have e:_=_:=e0;have f:_=_:=f0;go_simp;first|exact kq hK rfl|exact hK _ _ (VisK.refl _ _) rfl|exact hK _ _ (Below.refl _ _) rfl|exact hK _ _ (aD (VisK.refl _ _)) rfl|exact hK _ _ (py_low (by decide) (by decide) (Below.refl _ _)) rfl|exact hK _ _ (tr_low (by decide) (by decide) (by decide) (Below.refl _ _)) rfl)):∀j p,(o::l)[j]?=some p->bQ P ops Q md C S U V a0 (k+j) p:=aB (gY ho hg fun ev w _ _ hc hf hold hval a K ha hK=>h ev w hc hf (hval i d hb hd) (hval j c hb2 hd2) a K ha hK) hl
def pV3 {P:Program} {ops:Array Oper} {Q:Exit->Act->World->Prop} {md:Region.Mode} {C:World->Prop} {S:Nat->World->World->Prop} {U:Nat->World->Prop} {V:Nat->Value->World->Prop} {a0:Act} {k:Nat} {o:Oper} {l:List Oper} (i d:Nat) (hl:∀j p,l[j]?=some p->bQ P ops Q md C S U V a0 (k+1+j) p) (ho:ops[k]?=some o:=by rfl) (hg:o.guard=none:=by rfl) (hb:o.after.toList.any (fun e=>Region.binds md e&&e.on==i)=true:=by kernel_rfl) (hd:((ops[i]?).bind (·.dst))=some d:=by rfl) (h:∀(ev:Operand->Value) (w:World),(∀v,ev (.const v)=v)->(∀f,ev (.func f)=.func (.func f) #[] #[])->V i (ev (.tmp d)) w->∀(a:Act) (K:Act->World->Prop),a.eval=ev->(∀v w',S k w w'->V k v w'->K (a.put o.dst v) w')->Oper.upon P o a K Q ((execOp ev o).run P w):=by (intro ev w hc hf e0 a K ha hK;have e:_=_:=e0;go_simp;first|exact kq hK rfl|exact hK _ _ (VisK.refl _ _) rfl|exact hK _ _ (Below.refl _ _) rfl|exact hK _ _ (aD (VisK.refl _ _)) rfl|exact hK _ _ (py_low (by decide) (by decide) (Below.refl _ _)) rfl|exact hK _ _ (tr_low (by decide) (by decide) (by decide) (Below.refl _ _)) rfl)):∀j p,(o::l)[j]?=some p->bQ P ops Q md C S U V a0 (k+j) p:=aB (gY ho hg fun ev w _ _ hc hf hold hval a K ha hK=>h ev w hc hf (hval i d hb hd) a K ha hK) hl
def pH3 {P:Program} {ops:Array Oper} {Q:Exit->Act->World->Prop} {md:Region.Mode} {C:World->Prop} {S:Nat->World->World->Prop} {U:Nat->World->Prop} {V:Nat->Value->World->Prop} {a0:Act} {k:Nat} {o:Oper} {l:List Oper} (t:Nat) (x:Value) (hl:∀j p,l[j]?=some p->bQ P ops Q md C S U V a0 (k+1+j) p) (ho:ops[k]?=some o:=by rfl) (hg:o.guard=none:=by rfl) (hb:kX md ops k t=true:=by kernel_rfl) (hx:a0.eval (.tmp t)=x:=by rfl) (h:∀(ev:Operand->Value) (w:World),(∀v,ev (.const v)=v)->(∀f,ev (.func f)=.func (.func f) #[] #[])->ev (.tmp t)=x->∀(a:Act) (K:Act->World->Prop),a.eval=ev->(∀v w',S k w w'->V k v w'->K (a.put o.dst v) w')->Oper.upon P o a K Q ((execOp ev o).run P w):=by (intro ev w hc hf e a K ha hK;go_simp;first|exact kq hK rfl|exact hK _ _ (VisK.refl _ _) rfl|exact hK _ _ (Below.refl _ _) rfl|exact hK _ _ (aD (VisK.refl _ _)) rfl|exact hK _ _ (py_low (by decide) (by decide) (Below.refl _ _)) rfl|exact hK _ _ (tr_low (by decide) (by decide) (by decide) (Below.refl _ _)) rfl)):∀j p,(o::l)[j]?=some p->bQ P ops Q md C S U V a0 (k+j) p:=aB (gY ho hg fun ev w _ _ hc hf hold hval a K ha hK=>h ev w hc hf ((hold t hb).trans hx) a K ha hK) hl
end
section
variable {P : Program} {ops : Array Oper} {Q : Exit -> Act -> World -> Prop} {md : Region.Mode}
def upB (md:Region.Mode) (ops:Array Oper):Nat->Nat->Nat->Bool
 | 0,_,_=>false
 | f+1,j,i=>match ops[j]? with
   | some b=>b.after.toList.any fun a=>Region.binds md a&&(a.on==i||upB md ops f a.on i)
   | none=>false
def dX {i:Array Bool} (r:∀n f,ops[n]?=some f->i.getD n false=true->∀a∈f.after,Region.binds md a=true->i.getD a.on false=true):
 ∀c g e j,ops[g]?=some j->(∀a∈j.after,Region.binds md a=true->i.getD a.on false=true)->upB md ops c g e=true->i.getD e false=true:=by
 intro c
 induction c with
 | zero=>intro g e j _ _ d;cases d
 | succ c s=>
   intro g e j q o d;unfold upB at d;rw [q] at d;obtain ⟨a,p,k⟩:=List.any_eq_true.1 d;simp only [zBd,Bool.or_eq_true,zCn] at k;have m:=o a (Array.mem_toList_iff.1 p) k.1;rcases k.2 with b | b;rw [<-b];exact m
   · cases l:ops[a.on]? with
     | none=>
       exfalso;cases c with
       | zero=>cases b
       | succ c=>unfold upB at b;rw [l] at b;cases b
     | some f=>exact s a.on e f l (r a.on f l m) b
structure Loose7 (md:Region.Mode) (ops:Array Oper) (C:World->Prop) (U:Nat->World->Prop) (V:Nat->Value->World->Prop) (a0:Act) (listed:Array Bool) (a:Act) (w:World):Prop where
 world:C w
 pre:∀j o,ops[j]?=some o->listed.getD j false=false->U j w
 size:a.tmps.size=a0.tmps.size
 defers:a.defers=a0.defers
 old:∀t,(∀k p,ops[k]?=some p->p.dst=some t->listed.getD k false=false)->a.tmps.getD t undef=a0.tmps.getD t undef
 val:∀i o,ops[i]?=some o->listed.getD i false=true->∃v,(∀d,o.dst=some d->a.tmps.getD d undef=v)/\V i v w
 shut:∀k p,ops[k]?=some p->listed.getD k false=true->∀e∈p.after,Region.binds md e=true->listed.getD e.on false=true
def qQ (u:World->Prop) (N:Nat->World->World->Prop) (E:Nat->World->Prop) (F:Nat->Value->World->Prop) (v:Act)
 (T:World) (Y:eQ md ops v.tmps.size=true) (a6:u T) (a8:∀a,E a T) (a5:∀d e s,u e->N d e s->u s) (a7:∀a d e s,a≠d->upB md ops ops.size d a=false->E a e->u e->N d e s->E a s)
 (ah:∀a d x e s,a≠d->oQ md ops a d=false->F a x e->u e->N d e s->F a x s)
 (ai:∀d i,ops[d]?=some i->bQ P ops Q md u N E F v d i)
 (ac:∀g e,u e->g.tmps.size=v.tmps.size->g.defers=v.defers->
  (∀r,(∀(o:Nat) (j:Oper),ops[o]?=some j->j.dst≠some r)->g.tmps.getD r undef=v.tmps.getD r undef)->
  (∀a i,ops[a]?=some i->∃x,(∀p,i.dst=some p->g.tmps.getD p undef=x)/\F a x e)->Q .normal g e):
 wpAny P md ops Q ops.size (Array.replicate ops.size false) v T:=by
 have a2:∀b g e,b.size=ops.size->(∀a,a < ops.size->b.getD a false=true)->Loose7 md ops u E F v b g e->Q .normal g e:=by intro b g e C O c;refine ac g e c.world c.size c.defers (fun r ht=>c.old r fun o j f m=>absurd m (ht o j f)) fun a i l=>c.val a i l (O a (zAh.1 l).1)
 have an:∀b:Array Bool,b.size=ops.size->Region.ready md ops b= []->∀a,a < ops.size->b.getD a false=true:=by
  intro b C M a
  induction a using Nat.strongRecOn with
  | _ a a0=>
    intro n;cases A:b.getD a false with
    | true=>rfl
    | false=>
      exfalso;have S:a∈Region.ready md ops b:=(by refine mem_ready.2 ⟨?_,ops[a],zAq n,fun k t z=>?_⟩;have K:a < b.size:=oM;simp [K] at A⊢;exact A;have:=(bZ Y (zAq n)).1 k t z;exact a0 k.on this oM);rw [M] at S;cases S
 have am:∀H b g e,b.size=ops.size->b.toList.count false<=H->Loose7 md ops u E F v b g e->wpAny P md ops Q H b g e:=by
  intro H
  induction H with
  | zero=>
    intro b g e C A c
    have O:∀a,a < ops.size->b.getD a false=true:=by
        intro a n;have K:a < b.size:=oM;cases D:b.getD a false with
        | true=>rfl
        | false=>
          exfalso;have:false∈b.toList:=(by simp [K] at D;exact D ▸(by simp));have:=List.count_pos_iff.2 this;omega
    refine ⟨?_,a2 b g e C O c⟩;cases M:Region.ready md ops b with
    | nil=>rfl
    | cons a ap=>
      exfalso;have n:a∈Region.ready md ops b:=(by rw [M];exact List.mem_cons_self ..);obtain ⟨I,i,l,_⟩:=mem_ready.1 n;have G:a < ops.size:=(zAh.1 l).1;have w:=O a G;have K:a < b.size:=oM;simp [K] at I w;rw [I] at w;cases w
  | succ H a0=>
    intro b g e C A c;refine ⟨fun M=>a2 b g e C (an b C M) c,fun d ae=>?_⟩;obtain ⟨I,i,l,V⟩:=mem_ready.1 ae;have G:d < ops.size:=(zAh.1 l).1;have B:d < b.size:=oM;have y:b.getD d false=false:=(by simp [B] at I⊢;exact I);refine ai d i l g e c.world (c.pre d i l y) c.size c.defers (fun r ht=>c.old r fun o j f m=>?_) (fun k t z j p f m=>by obtain ⟨x,w,J⟩:=c.val k.on j f (V k t z);rw [w p m];exact J) _ fun x s U a9=>?_
    · rcases nH ht f m with rfl |⟨k,t,z,ad⟩;exact y
      · cases q:b.getD o false with
        | false=>rfl
        | true=>
          have:=c.shut o j f q k t z;rw [ad,y] at this;cases this
    · refine a0 _ _ _ (by simpa using C) ?_ ?_;have D:b.toList[d]'(by simpa using B)=false:=(by simp [B] at y⊢;exact y);rw [Array.toList_setIfInBounds,List.count_set (by simpa using B),D];simp;have S:false∈b.toList:=D ▸ zBj _;have:=List.count_pos_iff.2 S;rw [<-Array.count_toList];omega
      · have aj:(g.put i.dst x).tmps.size=v.tmps.size:=by
          rw [<-c.size];cases i.dst with
          | none=>rfl
          | some p=>simp [Act.put]
        refine ⟨a5 d e s c.world U,fun a j f n=>?_,aj,?_,fun r ht=>?_,fun a j f n=>?_,fun o j f q k t z=>?_⟩
        · have a3:a≠d:=fun k=>by rw [k,aM _ _ B] at n;cases n
          rw [getD_set_ne false a3.symm] at n;refine a7 a d e s a3 ?_ (c.pre a j f n) c.world U;cases al:upB md ops ops.size d a with
          | false=>rfl
          | true=>
            have:=dX c.shut _ d a i l V al;rw [n] at this;cases this
        · rw [<-c.defers];cases i.dst <;> rfl
        · have af:i.dst≠some r:=fun m=>by have:=ht d i l m;rw [aM _ _ B] at this;cases this
          have ag:=c.old r fun o j f m=>by
           have:=ht o j f m;cases q:b.getD o false with
           | false=>rfl
           | true=>
             by_cases a4:d=o
             · subst a4;rw [y] at q;cases q
             · rw [getD_set_ne false a4,q] at this;cases this
          rw [<-ag];cases Z:i.dst with
          | none=>rfl
          | some p=>
            have W:p≠r:=fun c=>af (by rw [Z,c]);simp [Act.put,zAm,W]
        · rcases cH _ _ _ n with rfl | R
          · rw [l] at f;injection f with f;subst f;refine ⟨x,fun p m=>?_,a9⟩;have ab:=((bZ Y l).2 p m).1;rw [m];have:p < g.tmps.size:=(by rw [c.size];exact ab);simp [Act.put,zAm,this]
          · by_cases X:a=d
            · subst X;rw [y] at R;cases R
            obtain ⟨ao,ak,D⟩:=c.val a j f R
            have aa:oQ md ops a d=false:=by
              cases A:oQ md ops a d with
              | false=>rfl
              | true=>
                exfalso;unfold oQ at A;rw [f] at A;obtain ⟨k,t,J⟩:=List.any_eq_true.1 A;simp only [zBd,zCn] at J;have:=c.shut a j f R k (Array.mem_toList_iff.1 t) J.1;rw [J.2,y] at this;cases this
            refine ⟨ao,fun p m=>?_,ah _ _ _ _ _ X aa D c.world U⟩;rw [<-ak p m];cases Z:i.dst with
            | none=>rfl
            | some a1=>
              have W:a1≠p:=fun c=>X (((bZ Y l).2 a1 Z).2 a j f (c ▸ m));simp [Act.put,zAm,W]
        rcases cH _ _ _ q with rfl | q;rw [l] at f;injection f with f;subst f;have w:=V k t z;by_cases L:o=k.on;rw [<-L];exact aM _ _ B _;rw [getD_set_ne false L];exact w;have w:=c.shut o j f q k t z;by_cases L:d=k.on;rw [<-L];exact aM _ _ B _;rw [getD_set_ne false L];exact w
 refine am _ _ _ _ (by simp) (by simp) ⟨a6,fun d _ _ _=>a8 d,rfl,rfl,fun _ _=>rfl,fun a i l n=>?_,fun o j f q=>?_⟩
 · have G:a < ops.size:=(zAh.1 l).1;simp [G] at n
 · have G:o < ops.size:=(zAh.1 f).1;simp [G] at q
def kG (r:List Nat) (d:World->Prop) (k:Nat->World->World->Prop) (l:Nat->World->Prop) (f:Nat->Value->World->Prop) (i:Act) (n:World)
 (C:ops.toList.filterMap (·.dst)=r)
 (F:eQ md ops i.tmps.size=true) (x:d n) (A:∀a,l a n) (w:∀c b e,d b->k c b e->d e) (z:∀a c b e,a≠c->upB md ops ops.size c a=false->l a b->d b->k c b e->l a e)
 (I:∀a c g b e,a≠c->oQ md ops a c=false->f a g b->d b->k c b e->f a g e)
 (J:∀c p,ops[c]?=some p->bQ P ops Q md d k l f i c p)
 (D:∀(u:Operand->Value) b,d b->(∀a m,((ops[a]?).bind (·.dst))=some m->f a (u (.tmp m)) b)->(∀a,a < ops.size->∃g,f a g b)->Q .normal (bY u r i) b):
 wpAny P md ops Q ops.size (Array.replicate ops.size false) i n:=by
 refine qQ d k l f i n F x A w z I J fun q b y K B G v=>?_;have o:=D q.eval b y (fun a m j=>by
  cases t:ops[a]? with
  | none=>rw [t] at j;cases j
  | some p=>
    rw [t] at j;obtain ⟨g,o,s⟩:=v a p t;have:=o m j;change f a (q.tmps.getD m undef) b;rw [this];exact s) (fun a E=>by
  obtain ⟨g,_,s⟩:=v a _ (zAq E);exact ⟨g,s⟩)
 rw [<-iK q i r K B fun M ht=>G M fun N L H j=>ht ?_] at o;exact o;rw [<-C];exact List.mem_filterMap.2 ⟨L,Array.mem_toList_iff.2 (Array.mem_of_getElem? H),j⟩
end
def mZ (e:Nat->Prop) (a b:Nat) (c d:World):Prop:=(b=a->Keep e c d)/\(b≠a->Grow c d)
def jD {a:Nat->Prop} {b e:Nat} {f g:World} (c:mZ a b e f g):Keep a f g:=by
 by_cases d:e=b;exact c.1 d;exact Keep.of_below (c.2 d)
def aC {d:Nat->Prop} {e f:Nat} {b c:World} (a:Grow b c):mZ d e f b c:=⟨fun _=>Keep.of_below a,fun _=>a⟩
def kq {e:Nat->Prop} {f j:Nat} {b:World} {d Q:Value->World->Prop} (i:∀a c,mZ e f j b c->d a c->Q a c) {a:Value} (g:d a b):Q a b:=i a b (aC bR) g
def cK {a:Nat->Prop} {b:Nat} {c d:World} (f:Keep a c d):mZ a b b c d:=⟨fun _=>f,fun e=>absurd rfl e⟩
def uX (e:Nat->Prop) (a:Value->World->Prop):Prop:=∀b c d,a b c->Keep e c d->a b d
def kL (a:Nat->Prop) (b:Value):uX a (is b):=fun _ _ _ c _=>c
def tB {i:Nat->Prop} {c:List (Value->World->Prop)} (k:∀g∈c,uX i g):∀b d e f,Vs c b d e->Keep i e f->Vs c b d f:=by
 intro b d e f a l;unfold Vs at a⊢;rw [zAb] at a⊢;cases j:c[b]? with
 | none=>simp
 | some g=>rw [j] at a;simp only [Option.getD_some] at a⊢;exact k g (zAd j) d e f a l
def VsJ (b:Nat) (d:Value->World->Prop) (c:List (Value->World->Prop)) (a:Nat):Value->World->Prop:=if a=b then d else Vs c a
def dF {P:Program} {ops:Array Oper} {Q:Exit->Act->World->Prop} {md:Region.Mode} (q:List Nat) (e:Nat->Prop) (c:Nat) (s:List Nat) (o:World->Prop) (n:Value->World->Prop) (m:List (Value->World->Prop)) (j:Act) (f:World)
 (D:ops.toList.filterMap (·.dst)=q) (F:eQ md ops j.tmps.size=true)
 (I:(s.all fun b=>b==c||upB md ops ops.size c b)=true)
 (H:o f) (G:∀a d,o a->Keep e f a->Grow a d->o d) (C:Stb n) (J:∀M∈m,uX e M)
 (K:∀g y,ops[g]?=some y->bQ P ops Q md (Keep e f) (mZ e c) (fun b a=>s.contains b=true->o a) (VsJ c n m) j g y)
 (E:∀(u:Operand->Value) a,Keep e f a->(∀b t,((ops[b]?).bind (·.dst))=some t->VsJ c n m b (u (.tmp t)) a)->(∀b,b < ops.size->∃p,VsJ c n m b p a)->Q .normal (bY u q j) a):
 wpAny P md ops Q ops.size (Array.replicate ops.size false) j f:=by
 refine kG q (Keep e f) (mZ e c) (fun b a=>s.contains b=true->o a) (VsJ c n m) j f D F (Keep.refl _ _) (fun _ _=>H) (fun g a d A i=>A.trans (jD i)) (fun b g a d r L k B i w=>?_) (fun b g p a d r _ l _ i=>?_) K E;by_cases x:g=c;exfalso;subst x;have v:=zBf.1 I b (by simpa using w);simp only [L,Bool.or_false,zCn] at v;exact r v;exact G a d (k w) B (i.2 x);unfold VsJ at l⊢;by_cases k:b=c;rw [zBw k] at l⊢;exact C p a d l (i.2 fun z=>r (k.trans z.symm));rw [zBv k] at l⊢;exact tB J b p a d l (jD i)
def Made.mono {g:World} {B B' f e c:Nat} {d:TypeId} {b:Option Addr} {i:List Value} (a:Made g B d f b e c i) (j:B'<=B):Made g B' d f b e c i:=⟨cU a.own j,a.rd,a.cap,a.max⟩
def tV (b:Nat->Prop) (d:TypeId) (c:Array Value) (mk:Nat->Value):Value->World->Prop:=fun e f=>∃a,e=mk a/\Bk f a d c/\¬b a
def nV (a:Nat->Prop) (d:TypeId) (c:Array Value) (mk:Nat->Value):uX a (tV a d c mk):=fun _ _ _ ⟨e,f,g,b⟩ i=>⟨e,f,i.bk g b,b⟩
def dU:Value->World->Prop:=fun _ _=>True
def gZ (a:Nat->Prop):uX a dU:=fun _ _ _ _ _=>trivial
end
section
open Go.RowKit
def qK:(prog.info? 4).map (fun a=>(a.zero,a.size,a.bytes))=some (some (.bool false),1,1):=by kernel_rfl
def lR (a:World):
 Calls prog 149 #[.int .i64 268435456] a fun c b=>c=.returned (.pointer (some a.heap.size))/\Bk b a.heap.size 228 #[.slice none 0 0,.slice none 0 0,.int .i64 268435456]/\Below a.heap.size a b:=by
 go_enter func149,ntmps149;go_wp2;go_ret;exact ⟨rfl,Bk.new _ _ _,bR.alloc nL _⟩
def aA2 {c:World} {a:Nat} {g:TypeId} {f:Value} (d:Bk c a g #[f]):Rd c c.heap.size 1 (some ⟨a,0,none⟩) 1 [f]:=by
 refine ⟨rfl,fun _=>⟨a,0,rfl,d.lt,fun b i e=>?_⟩⟩;rw [zBi,d.cell b];rcases b with _ | b;exact e
 · simp at e
def aA {m w':World} {e:Nat} {a:TypeId} {l k:Nat} {d:Value} {n:List Value} (j:m.ownsRow e a l d k n) (s:∀c f,d.ownBlock=some c->Bk m c a f->Bk w' c a f):w'.ownsRow e a l d k n:=by
 refine ⟨j.1,?_⟩;rcases j.2 with b |⟨i,o,g,b,p,q,r⟩;exact .inl b;exact .inr ⟨i,o,g,b,p,s i g (by rw [b];rfl) q,r⟩
def qD {m d:World} {g:Nat} {c:TypeId} {l k i:Nat} {f:Option Addr} {n:List Value} (e:Made m g c l f k i n) (o:∀a b,Bk m a c b->Bk d a c b):Made d g c l f k i n:=by
 have j:=aA (w':=d) e.own fun a b _=>o a b;exact ⟨j,Rd.of_own j,e.cap,e.max⟩
structure VisF (F:Nat->Prop) (w w':World):Prop where
 os:w'.os=w.os
 tape:w'.tape=w.tape
 output:w'.output=w.output
 size:w.heap.size<=w'.heap.size
 block:∀b,b < w.heap.size->¬F b->w'.heap[b]?=w.heap[b]?∨(∃cs v,Bk w b 205 cs/\Bk w' b 205 (cs.setIfInBounds 3 (.int .i64 v)))∨(∃cs v,Bk w b 135 cs/\Bk w' b 135 (cs.setIfInBounds 10 (.int .i64 v)))
abbrev Vis:World->World->Prop:=VisF (fun _=>False)
def Vis.refl (a:World):Vis a a:=⟨rfl,rfl,rfl,zAs _,fun _ _ _=>.inl rfl⟩
def VisF.of_vis {d:Nat->Prop} {b c:World} (a:Vis b c):VisF d b c:=⟨a.os,a.tape,a.output,a.size,fun e f _=>a.block e f (fun g=>g)⟩
def VisF.of_keep {b:Nat->Prop} {c d:World} (a:Keep b c d):VisF b c d:=⟨a.os,a.tape,a.output,a.size,fun e f g=>.inl (a.block e f g)⟩
def VisF.to_vis {d:Nat->Prop} {c f:World} (b:VisF d c f) (g:∀a,a < c.heap.size->¬d a):Vis c f:=⟨b.os,b.tape,b.output,b.size,fun a e _=>b.block a e (g a e)⟩
def qW (b:Array Value) (a:Nat) (d c:Value):(b.setIfInBounds a d).setIfInBounds a c=b.setIfInBounds a c:=by
 apply Array.ext
 · simp
 · intro g e f;simp [Array.getElem_setIfInBounds]
def aU {i:World} {d:Nat} {f g:TypeId} {b c:Array Value} (e:Bk i d f b) (a:Bk i d g c):f=g/\b=c:=by
 unfold Bk at e a;rw [e] at a;injection a with a;injection a with h1 h2;exact ⟨h2,h1⟩
def VisF.trans {F:Nat->Prop} {o w1 p:World} (e:VisF F o w1) (g:VisF F w1 p):VisF F o p:=by
 refine ⟨g.os.trans e.os,g.tape.trans e.tape,g.output.trans e.output,zAk e.size g.size,fun j m n=>?_⟩;have q:j < w1.heap.size:=zAl m e.size;rcases e.block j m n with b |⟨f,l,b,c⟩|⟨f,l,b,c⟩<;> rcases g.block j q n with a |⟨k,i,a,d⟩|⟨k,i,a,d⟩;exact .inl (a.trans b);exact .inr (.inl ⟨k,i,b.symm.trans a,d⟩);exact .inr (.inr ⟨k,i,b.symm.trans a,d⟩);exact .inr (.inl ⟨f,l,b,a.trans c⟩);obtain ⟨_,rfl⟩:=aU c a;rw [qW] at d;exact .inr (.inl ⟨f,i,b,d⟩);exact absurd (aU c a).1 dC;exact .inr (.inr ⟨f,l,b,a.trans c⟩);exact absurd (aU c a).1 dC;obtain ⟨_,rfl⟩:=aU c a;rw [qW] at d;exact .inr (.inr ⟨f,i,b,d⟩)
def Vis.trans {a w1 b:World} (c:Vis a w1) (d:Vis w1 b):Vis a b:=VisF.trans c d
def Vis.of_below {b c:World} (a:Below b.heap.size b c):Vis b c:=⟨a.os,a.tape,a.output,a.size,fun d e _=>.inl (a.block d e)⟩
def Vis.set_tree {b:World} {a:Nat} {d:Array Value} (f:Bk b a 205 d) (g:Int):Vis b (b.setCell ⟨a,3,none⟩ (.int .i64 g)):=by
 refine ⟨rfl,rfl,rfl,by simp [World.setCell],fun c j _=>?_⟩;by_cases e:c=a;subst e;exact .inr (.inl ⟨d,g,f,f.set 3 _⟩);exact .inl (heap_setCell_other b ⟨a,3,none⟩ c _ (fun i=>e i))
def Vis.set_wave {b:World} {a:Nat} {d:Array Value} (f:Bk b a 135 d) (g:Int):Vis b (b.setCell ⟨a,10,none⟩ (.int .i64 g)):=by
 refine ⟨rfl,rfl,rfl,by simp [World.setCell],fun c j _=>?_⟩;by_cases e:c=a;subst e;exact .inr (.inr ⟨d,g,f,f.set 10 _⟩);exact .inl (heap_setCell_other b ⟨a,10,none⟩ c _ (fun i=>e i))
def VisF.put {F:Nat->Prop} {k w1:World} (b:VisF F k w1) {p:Addr} (c:F p.block∨k.heap.size<=p.block) (i:Value):VisF F k (w1.setCell p i):=by
 refine ⟨b.os,b.tape,b.output,by simpa [World.setCell] using b.size,fun d m l=>?_⟩;have f:(w1.setCell p i).heap[d]?=w1.heap[d]?:=heap_setCell_other w1 p d i (fun n=>by
  rcases c with c | c;rw [<-n] at c;exact l c
  · omega)
 rcases b.block d m l with a |⟨e,j,a,g⟩|⟨e,j,a,g⟩;exact .inl (f.trans a);exact .inr (.inl ⟨e,j,a,f.trans g⟩);exact .inr (.inr ⟨e,j,a,f.trans g⟩)
def Vis.fresh {a w1:World} (c:Vis a w1) {p:Addr} (d:a.heap.size<=p.block) (b:Value):Vis a (w1.setCell p b):=VisF.put c (.inr d) b
def Vis.alloc {a w1:World} (b:Vis a w1) (c:Obj):Vis a (w1.alloc c):=b.trans (Vis.of_below (bR.alloc nL _))
def Vis.below {a w1 b:World} (c:Vis a w1) (d:Below w1.heap.size w1 b):Vis a b:=c.trans (Vis.of_below d)
def VisF.bk {e:Nat->Prop} {g i:World} {b:Nat} {d:TypeId} {f:Array Value} (l:VisF e g i) (c:Bk g b d f) (m:d≠205) (n:d≠135) (o:¬e b):Bk i b d f:=by
 rcases l.block b c.lt o with a |⟨j,p,a,k⟩|⟨j,p,a,k⟩;exact a.trans c;exact absurd (aU c a).1 m;exact absurd (aU c a).1 n
def VisF.tree {e:Nat->Prop} {l m:World} {b:Nat} {f g i:Value} {k:Int} (o:VisF e l m) (c:Bk l b 205 #[f,g,i,.int .i64 k]) (p:¬e b):∃d,Bk m b 205 #[f,g,i,.int .i64 d]:=by
 rcases o.block b c.lt p with a |⟨n,d,a,j⟩|⟨n,d,a,j⟩;exact ⟨k,a.trans c⟩;obtain ⟨_,rfl⟩:=aU c a;exact ⟨d,j⟩;exact absurd (aU c a).1 dC
def VisF.wave {g:Nat->Prop} {j f:World} {b:Nat} {e:Array Value} (l:VisF g j f) (c:Bk j b 135 e) (m:¬g b):Bk f b 135 e∨∃d,Bk f b 135 (e.setIfInBounds 10 (.int .i64 d)):=by
 rcases l.block b c.lt m with a |⟨k,d,a,i⟩|⟨k,d,a,i⟩;exact .inl (a.trans c);exact absurd (aU c a).1 dC;obtain ⟨_,rfl⟩:=aU c a;exact .inr ⟨d,i⟩
def Vis.bk {d e:World} {c:Nat} {a:TypeId} {b:Array Value} (f:Vis d e) (j:Bk d c a b) (g:a≠205) (i:a≠135):Bk e c a b:=VisF.bk f j g i (fun k=>k)
def Vis.tree {e f:World} {d:Nat} {a b c:Value} {j:Int} (g:Vis e f) (i:Bk e d 205 #[a,b,c,.int .i64 j]):∃k,Bk f d 205 #[a,b,c,.int .i64 k]:=VisF.tree g i (fun l=>l)
def Vis.wave {d c:World} {b:Nat} {a:Array Value} (e:Vis d c) (f:Bk d b 135 a):Bk c b 135 a∨∃g,Bk c b 135 (a.setIfInBounds 10 (.int .i64 g)):=VisF.wave e f (fun i=>i)
def VisK (c:Nat->Prop) (a b:World):Prop:=Vis a b/\Keep c a b
def VisK.refl (b:Nat->Prop) (a:World):VisK b a a:=⟨Vis.refl a,Keep.refl b a⟩
def vR {b:Nat->Prop} {a:World}:VisK b a a:=VisK.refl b a
def VisK.trans {F:Nat->Prop} {c w1 d:World} (a:VisK F c w1) (b:VisK F w1 d):VisK F c d:=⟨a.1.trans b.1,a.2.trans b.2⟩
def VisK.below {F:Nat->Prop} {c w1 d:World} (a:VisK F c w1) (b:Below w1.heap.size w1 d):VisK F c d:=⟨a.1.trans (Vis.of_below b),a.2.trans (Keep.of_below b)⟩
def VisK.of_below {F:Nat->Prop} {a b:World} (c:Below a.heap.size a b):VisK F a b:=(VisK.refl F a).below c
def VisK.alloc {a:Nat->Prop} {b w1:World} (c:VisK a b w1) (d:Obj):VisK a b (w1.alloc d):=c.below (bR.alloc nL _)
def VisK.set_tree {c:World} {a:Nat} {e:Array Value} (f:Bk c a 205 e) (d:Int):VisK (fun b=>b=a) c (c.setCell ⟨a,3,none⟩ (.int .i64 d)):=⟨Vis.set_tree f d,Keep.setCell (F:=fun b=>b=a) (Keep.refl _ _) (p:=⟨a,3,none⟩) (.inl rfl) _⟩
def VisK.mono {b G:Nat->Prop} {d e:World} (c:VisK b d e) (f:∀a,b a->G a):VisK G d e:=⟨c.1,c.2.mono fun a _=>f a⟩
def Vis.own {f g:World} {b:Nat} {a:TypeId} {d c:Nat} {e:Value} {i:List Value} (n:Vis f g) (j:f.ownsRow b a d e c i) (k:a≠205) (l:a≠135):g.ownsRow b a d e c i:=
 aA j fun o p _ m=>n.bk m k l
def Vis.made {g i:World} {c:Nat} {a:TypeId} {f e d:Nat} {b:Option Addr} {j:List Value} (o:Vis g i) (k:Made g c a f b e d j) (l:a≠205) (m:a≠135):Made i c a f b e d j:=
 qD k fun p q n=>o.bk n l m
def RdT (k:World) (j:TypeId) (i:Option Addr) (d:Nat) (g:List Value):Prop:=
 g.length=d/\(0 < d->∃a e b,i=some ⟨a,e,none⟩/\Bk k a j b/\∀c f,g[c]?=some f->b[e+c]?=some f)
def RdT.rd {a:World} {o:TypeId} {b:Option Addr} {e:Nat} {f:List Value} (c:RdT a o b e f):Rd a a.heap.size 1 b e f:=by
 refine ⟨by rw [c.1,zBl],fun k=>?_⟩;obtain ⟨g,n,q,i,d,j⟩:=c.2 k;exact ⟨g,n,i,d.lt,fun m p l=>(d.cell _).trans (j m p l)⟩
def RdT.same {g w':World} {c:TypeId} {d:Option Addr} {f:Nat} {i:List Value} (e:RdT g c d f i) (n:∀a b,Bk g a c b->Bk w' a c b):RdT w' c d f i:=by
 refine ⟨e.1,fun m=>?_⟩;obtain ⟨a,o,b,j,k,l⟩:=e.2 m;exact ⟨a,o,b,j,n a b k,l⟩
def sv (a:Nat):Value:=.int .i64 (a:Int)
def fZ:(prog.info? 3).map (fun a=>(a.zero,a.size,a.bytes))=some (some (.int .i64 0),1,8):=by kernel_rfl
def wO {d:World} {B a n:Nat} {c:TypeId} {b:List Value} (i:Bk d a c b.toArray) (j:B<=a) (f:b.length=n) (e:n<=maxLen):Made d B c 1 (some ⟨a,0,none⟩) n n b:=by
 have g:d.ownsRow B c 1 (.slice (some a) n n) n b:=⟨by omega,.inr ⟨a,n,b.toArray,rfl,j,i,zAs _,e,by simp [f],by rw [zBl,zAg (by simp [f])]⟩⟩;exact ⟨g,Rd.of_own g,zAs _,e⟩
end
end Go.Proofs.YtnmapianpjamnaaGreatDoor
