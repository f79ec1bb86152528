/- Lemmas of the walk. Conditions: each its own. -/
import Derived.Test.YthldmddkfbijhaaGreatDoorPsr0
import Derived.Test.YthldmddkfbijhaaGreatDoorProg
set_option linter.all false
set_option maxRecDepth 100000
set_option maxHeartbeats 4000000
namespace Go.Proofs.YthldmddkfbijhaaGreatDoor
section
open Go.RowKit
theorem aC7 (a b:Nat) (ha:a < 18446744073709551616) (hb:b < 18446744073709551616):bits .and .u64 (a:Int) (b:Int)=((a&&& b:Nat):Int):=
 (bits_nat .u64 64 dC (fun n h0 h1=>by rw [IntKind.wrap_u64];omega) a b oM oM).1
theorem aA4 (x k m d:Nat) (hx:x < 18446744073709551616) (hm:m < 18446744073709551616) (hd:2 ^ k=d):bits .and .u64 ((x:Int)/(d:Int)) (m:Int)=((x >>> k&&& m:Nat):Int):=by
 have h1:((x:Int)/(d:Int))=((x >>> k:Nat):Int):=by rw [Nat.shiftRight_eq_div_pow,hd];push_cast;rfl
 have h2:x >>> k < 18446744073709551616:=by rw [Nat.shiftRight_eq_div_pow];exact Nat.lt_of_le_of_lt (Nat.div_le_self _ _) hx
 rw [h1,aC7 _ _ h2 hm]
theorem aAi (x:Nat) (hx:x < 18446744073709551616) (w:World):
 Calls Tryz.prog 277 #[.int .u64 (x:Int)] w fun e w'=>e=.returned (.int .i64 ((bJ x 64:Nat):Int))/\w=w':=by
 obtain ⟨p1,hp1⟩:∃p,p=x >>> 1&&& 6148914691236517205:=⟨_,rfl⟩;obtain ⟨p2,hp2⟩:∃p,p=x&&& 6148914691236517205:=⟨_,rfl⟩;have b1:p1<=6148914691236517205:=by rw [hp1];exact Nat.and_le_right
 have b2:p2<=6148914691236517205:=by rw [hp2];exact Nat.and_le_right
 obtain ⟨y1,hy1⟩:∃y,y=p1+p2:=⟨_,rfl⟩;obtain ⟨q1,hq1⟩:∃p,p=y1 >>> 2&&& 3689348814741910323:=⟨_,rfl⟩;obtain ⟨q2,hq2⟩:∃p,p=y1&&& 3689348814741910323:=⟨_,rfl⟩;have b3:q1<=3689348814741910323:=by rw [hq1];exact Nat.and_le_right
 have b4:q2<=3689348814741910323:=by rw [hq2];exact Nat.and_le_right
 obtain ⟨y2,hy2⟩:∃y,y=q1+q2:=⟨_,rfl⟩;obtain ⟨r1,hr1⟩:∃r,r=y2 >>> 4+y2:=⟨_,rfl⟩;have hr1':r1=y2 / 16+y2:=by rw [hr1,Nat.shiftRight_eq_div_pow]
 obtain ⟨y3,hy3⟩:∃y,y=r1&&& 1085102592571150095:=⟨_,rfl⟩;have b5:y3<=1085102592571150095:=by rw [hy3];exact Nat.and_le_right
 obtain ⟨y4,hy4⟩:∃y,y=y3+y3 / 256:=⟨_,rfl⟩;obtain ⟨y5,hy5⟩:∃y,y=y4+y4 / 65536:=⟨_,rfl⟩;obtain ⟨y6,hy6⟩:∃y,y=y5+y5 / 4294967296:=⟨_,rfl⟩;have hs:y3=aCi x:=by rw [hy3,hr1,hy2,hq1,hq2,hy1,hp1,hp2];rfl
 obtain ⟨hfin,hlt⟩:=aLn x hx y4 y5 y6 (by rw [<-hs];exact hy4) hy5 hy6;have k1:bits .and .u64 ((x:Int)/ 2) 6148914691236517205=(p1:Int):=by rw [hp1];exact aA4 x 1 6148914691236517205 2 hx oM dC
 have k2:bits .and .u64 (x:Int) 6148914691236517205=(p2:Int):=by rw [hp2];exact aC7 x 6148914691236517205 hx oM
 have k3:IntKind.u64.wrap ((p1:Int)+(p2:Int))=(y1:Int):=by rw [IntKind.wrap_u64];omega
 have k4:bits .and .u64 ((y1:Int)/ 4) 3689348814741910323=(q1:Int):=by rw [hq1];exact aA4 y1 2 3689348814741910323 4 oM oM dC
 have k5:bits .and .u64 (y1:Int) 3689348814741910323=(q2:Int):=by rw [hq2];exact aC7 y1 3689348814741910323 oM oM
 have k6:IntKind.u64.wrap ((q1:Int)+(q2:Int))=(y2:Int):=by rw [IntKind.wrap_u64];omega
 have k7:IntKind.u64.wrap ((y2:Int)/ 16+(y2:Int))=(r1:Int):=by rw [IntKind.wrap_u64];omega
 have k8:bits .and .u64 (r1:Int) 1085102592571150095=(y3:Int):=by rw [hy3];exact aC7 r1 1085102592571150095 oM oM
 have k9:IntKind.u64.wrap ((y3:Int)+(y3:Int)/ 256)=(y4:Int):=by rw [IntKind.wrap_u64];omega
 have k10:IntKind.u64.wrap ((y4:Int)+(y4:Int)/ 65536)=(y5:Int):=by rw [IntKind.wrap_u64];omega
 have k11:IntKind.u64.wrap ((y5:Int)+(y5:Int)/ 4294967296)=(y6:Int):=by rw [IntKind.wrap_u64];omega
 have hy6b:y6 < 9223372036854775808:=oM;have k12:bits .and .i64 (y6:Int) 127=((bJ x 64:Nat):Int):=by have:=bits_mask .i64 63 dC (fun n h0 h1=>by rw [IntKind.wrap_i64];omega) 7 dC (y6:Int) oM oM;rw [show ((2:Int)^ 7 - 1)=127 by decide,show ((2:Int)^ 7)=128 by decide] at this;rw [this,<-hfin];omega
 clear hp1 hp2 hy1 hq1 hq2 hy2 hr1 hr1' hy3 hy4 hy5 hy6 hs hfin b1 b2 b3 b4 b5;go_enter Tryz.func277,Tryz.ntmps277;go_wp2;go_ret;exact ⟨fL (by first | exact k12 | simp [k12]),rfl⟩
theorem aIn (x m n:Nat) (h:m<=n):bJ (x % 2 ^ m) n=bJ x m:=by
 obtain ⟨d,rfl⟩:∃d,n=m+d:=⟨n - m,by omega⟩;rw [aCJ,aCI];have:(x % 2 ^ m)>>> m=0:=by rw [Nat.shiftRight_eq_div_pow];exact Nat.div_eq_of_lt (Nat.mod_lt _ (Nat.two_pow_pos m))
 rw [this];have z:∀d,bJ 0 d=0:=fun d=>by unfold bJ;simp
 rw [z];rfl
def aBl (x:Nat) (k:Int):Nat:=x % 2 ^(min k.toNat 64)
def uvn (n:Nat):Value:=.int .u64 (n:Int)
theorem rN (x:Nat) (k:Int) (hx:x < 18446744073709551616) (hk:-9223372036854775808<=k/\k<=9223372036854775807) (w:World):
 Calls Tryz.prog 267 #[.int .u64 (x:Int),.int .i64 k] w fun e w'=>e=.returned (.int .u64 ((aBl x k:Nat):Int))/\w=w':=by
 unfold aBl;by_cases h0:k<=0
 · have e0:x % 2 ^(min k.toNat 64)=0:=(by rw [show k.toNat=0 by omega];simp [Nat.mod_one]);rw [e0];go_enter Tryz.func267,Tryz.ntmps267;go_wp2;go_ret;exact ⟨rfl,rfl⟩
 · by_cases h1:k>=64
   · have e1:x % 2 ^(min k.toNat 64)=x:=(by rw [show min k.toNat 64=64 by omega];exact zBu oM);rw [e1];have h2:¬(k<=0):=h0;go_enter Tryz.func267,Tryz.ntmps267;go_wp2;go_ret;exact ⟨rfl,rfl⟩
   · obtain ⟨m,rfl⟩:∃m:Nat,k=(m:Int):=⟨k.toNat,by omega⟩;have hm:m < 64:=oM;have d0:decide ((m:Int)<=0)=false:=(by simp;omega);have d1:decide ((m:Int)>=64)=false:=(by simp;omega);have e2:min (m:Int).toNat 64=m:=oM;rw [e2];have hp:2 ^ m < 18446744073709551616:=(by have:=Nat.pow_lt_pow_right (a:=2) dC hm;omega);have hpi:((2:Int)^ m)=((2 ^ m:Nat):Int):=(by push_cast;rfl);have hpos:=Nat.two_pow_pos m;have h1':IntKind.u64.wrap ((2:Int)^ m)=(2:Int)^ m:=(by rw [hpi,IntKind.wrap_u64];omega);have h2':IntKind.u64.wrap ((2:Int)^ m - 1)=(2:Int)^ m - 1:=(by rw [hpi,IntKind.wrap_u64];omega);have h3:bits .and .u64 (x:Int) ((2:Int)^ m - 1)=(x:Int)% 2 ^ m:=bits_mask .u64 64 dC (fun n h0 h1=>by rw [IntKind.wrap_u64];omega) m oM (x:Int) oM oM;clear hpi;go_enter Tryz.func267,Tryz.ntmps267;go_wp2;go_ret;exact ⟨by first | rfl | simp,rfl⟩
theorem iQ (A:Option Addr) (m c B:Nat) (l:List Nat) (w:World) (hr:Rd w B 1 A m (l.map uvn)) (hl:∀n∈l,n < 18446744073709551616) (hm:m<=1048576):
 Calls Tryz.prog 263 #[.slice A m c] w fun e w'=>e=.returned (.int .i64 (((l.map fun x=>bJ x 64).sum:Nat):Int))/\w=w':=by
 have hll:l.length=m:=by simpa using hr.1
 obtain ⟨Hr,Hl,Hll⟩:=hqq3 hr hl hll;have hb:∀k,((l.take k).map fun x=>bJ x 64).sum<=k*64:=fun k=>by
  induction k with
  | zero=>simp
  | succ k ih=>
    by_cases hk:k < l.length;rw [List.take_succ_eq_append_getElem hk,zAz,List.sum_append];have:=oQ l[k] 64;simp only [List.map_cons,List.map_nil,List.sum_cons,List.sum_nil];omega;rw [zAg oM];rw [zAg oM] at ih;omega
 have Hb:=lhd hb;clear hr hl hll hb;go_enter Tryz.func263,Tryz.ntmps263;go_wp2;go_loopw [3,8] (fun v i wr=>∃k:Nat,k<=m/\i=.int .i64 k/\v=.int .i64 ((((l.take k).map fun x=>bJ x 64).sum:Nat):Int)/\w=wr) (fun _ i _=>m -(intOf i).toNat)
 case atStart=>exact ⟨0,zAp _,rfl,by simp,rfl⟩
 case round=>
  obtain ⟨k,hk,rfl,rfl,rfl⟩:=hrel;by_cases hlt:k < m
  · have hkl:k < l.length:=(by rw [Hll.out];exact hlt);obtain ⟨x,hx⟩:∃x,l[k]?=some x:=⟨l[k],zAa hkl⟩;obtain ⟨b,off,u,rfl,hbl,hu,hc⟩:=Hr.out.get hlt;rw [zAf,hx] at hu;simp at hu;subst hu;unfold uvn at hc;have hx64:=Hl.out x (zAd hx);have hnx:((l.take (k+1)).map fun x=>bJ x 64).sum=((l.take k).map fun x=>bJ x 64).sum+bJ x 64:=(by rw [zAv,hx];simp);have hbd:=Hb.out k;have h64:=oQ x 64;generalize ((l.take k).map fun x=>bJ x 64).sum=q at*
    have Hnx:=lhd hnx;clear hnx hx;go_wp2_with fail;refine (aAi x hx64 _).mono ?_;rintro e w' ⟨rfl,rfl⟩;go_wp2;go_roundw
    case rel=>exact ⟨k+1,by omega,by go_num,by rw [Hnx.out];go_num,trivial⟩
    case measure=>simp [intOf];omega
  · have hge:m<=k:=oM;have htk:l.take k=l:=zAg (by have:=Hll.out;omega);rw [htk];clear htk;go_wp2;go_ret;exact ⟨rfl,rfl⟩
def xC (x:Nat) (k:Int):Nat:=bJ x (min k.toNat 64)
theorem tB (x:Nat) (k:Int) (hx:x < 18446744073709551616) (hk:-9223372036854775808<=k/\k<=9223372036854775807) (w:World):
 Calls Tryz.prog 245 #[.int .u64 (x:Int),.int .i64 k] w fun e w'=>e=.returned (.int .i64 ((xC x k:Nat):Int))/\Below w.heap.size w w':=by
 have hlow:aBl x k < 18446744073709551616:=by unfold aBl;exact Nat.lt_of_le_of_lt (Nat.mod_le _ _) hx
 have hfin:bJ (aBl x k) 64=xC x k:=aIn x _ 64 (Nat.min_le_right _ _);go_enter Tryz.func245,Tryz.ntmps245;go_wp2_with fail;refine (rN x k hx hk _).mono ?_;rintro e w' ⟨rfl,rfl⟩;go_wp2_with fail;refine (iQ _ 1 1 _ [aBl x k] _ (Rd.made _ _ 1 1 _ rfl) (by simpa using hlow) oM).mono ?_;rintro e w' ⟨rfl,rfl⟩;have hsum:(([aBl x k].map fun x=>bJ x 64).sum)=xC x k:=by simp [hfin]
 rw [hsum];go_wp2_with fail;go_ret;exact ⟨rfl,bR.alloc nL _⟩
end
section
def lG:List Bool->Nat
 | []=>0
 | b::l=>(if b then 1 else 0)+2*lG l
theorem vX (l:List Bool):lG l < 2 ^ l.length:=by
 induction l with
 | nil=>simp [lG]
 | cons b l ih=>
   simp only [lG,zCg,Nat.pow_succ];cases b <;> simp <;> omega
theorem kI (l:List Bool) (k:Nat):(lG l).testBit k=l.getD k false:=by
 induction l generalizing k with
 | nil=>simp [lG]
 | cons b l ih=>
   cases k with
   | zero=>
     simp only [lG,List.getD_cons_zero,Nat.testBit_zero];cases b <;> simp <;> omega
   | succ k=>
     have h:((if b then 1 else 0)+2*lG l)/ 2=lG l:=(by cases b <;> simp <;> omega);simp only [lG,List.getD_cons_succ,Nat.testBit_succ,h];exact ih k
theorem aCW (a b:List Bool):lG (a++b)=lG a+2 ^ a.length*lG b:=by
 induction a with
 | nil=>simp [lG]
 | cons x a ih=>
   simp only [List.cons_append,lG,ih,zCg,Nat.pow_succ];cases x <;> simp <;> rw [Nat.mul_add,<-Nat.mul_assoc,Nat.mul_comm 2 (2 ^ a.length)] <;> omega
theorem oX (l:List Bool) (n:Nat):bJ (lG l) n=(l.take n).count true:=by
 induction n with
 | zero=>simp [oP]
 | succ n ih=>
   rw [dK,ih,kI,zAv,zCc];cases h:l[n]? with
   | none=>simp [zAb,h]
   | some b=>cases b <;> simp [zAb,h]
theorem aAL (l:List Bool) (b:Bool):lG (l++ [b])=lG l+if b then 2 ^ l.length else 0:=by
 rw [aCW];cases b <;> simp [lG]
theorem aIm (a k:Nat) (h:a < 2 ^ k):a||| 2 ^ k=a+2 ^ k:=by
 have:=Nat.two_pow_add_eq_or_of_lt h 1;rw [zBl] at this;rw [Nat.or_comm,<-this,zCs]
def w0 (l:List Bool):Nat:=lG (l.take 64)
def w1 (l:List Bool):Nat:=lG (l.drop 64)
theorem nM (l:List Bool):w0 l < 18446744073709551616:=by
 have h:=vX (l.take 64);have h2:(l.take 64).length<=64:=by rw [zAj];omega
 have h3:=zBp (n:=2) dC h2;unfold w0;omega
theorem nH (l:List Bool) (hl:l.length<=128):w1 l < 18446744073709551616:=by
 have h:=vX (l.drop 64);have h2:(l.drop 64).length<=64:=by rw [zAw];omega
 have h3:=zBp (n:=2) dC h2;unfold w1;omega
theorem aKv (l:List Bool) (hl:l.length<=128):bJ (w0 l) 64+bJ (w1 l) 64=l.count true:=by
 unfold w0 w1;rw [oX,oX,List.take_take,Nat.min_self,zAg (l:=l.drop 64) (by rw [zAw];omega),<-zCc,zAu]
theorem aKu (l:List Bool) (k:Nat) (hl:l.length<=128) (hk:k<=l.length):bJ (w0 l) (min k 64)+bJ (w1 l) (min (k - 64) 64)=(l.take k).count true:=by
 unfold w0 w1;rw [oX,oX,List.take_take];rcases zBe k 64 with h | h
 · have e1:min (min k 64) 64=k:=oM;have e2:min (k - 64) 64=0:=oM;rw [e1,e2,List.take_zero,List.count_nil,zBq]
 have e1:min (min k 64) 64=64:=oM;have e2:min (k - 64) 64=k - 64:=oM;rw [e1,e2,<-zCc];congr 1;rw [<-zAu 64 (l.take k),List.take_take,List.drop_take];congr 2;omega
theorem aAv (l:List Bool) (b:Bool) (h:l.length < 64):w0 (l++ [b])=w0 l+(if b then 2 ^ l.length else 0)/\w1 (l++ [b])=w1 l:=by
 unfold w0 w1;rw [zAg (by simp;omega),zAg oM,List.drop_of_length_le (by simp;omega),List.drop_of_length_le oM];exact ⟨aAL l b,rfl⟩
theorem aAw (l:List Bool) (b:Bool) (h:64<=l.length):w0 (l++ [b])=w0 l/\w1 (l++ [b])=w1 l+(if b then 2 ^(l.length - 64) else 0):=by
 unfold w0 w1;rw [List.take_append_of_le_length h,List.drop_append_of_le_length h,aAL,zAw];exact ⟨rfl,rfl⟩
theorem aHu (l:List Bool) (h:l.length < 64):w0 l < 2 ^ l.length:=by
 unfold w0;rw [zAg oM];exact vX l
theorem aHs (l:List Bool):w1 l < 2 ^(l.length - 64):=by
 unfold w1;have:=vX (l.drop 64);rwa [zAw] at this
end
section
open Go.RowKit
def iI (l:List Bool):Array Value:=#[.int .i64 (l.length:Int),.int .u64 ((w0 l:Nat):Int),.int .u64 ((w1 l:Nat):Int)]
theorem aGm (a b:Nat) (ha:a < 18446744073709551616) (hb:b < 18446744073709551616):bits .or .u64 (a:Int) (b:Int)=((a||| b:Nat):Int):=
 (bits_nat .u64 64 dC (fun n h0 h1=>by rw [IntKind.wrap_u64];omega) a b oM oM).2
theorem nE (A:Option Addr) (m c B:Nat) (l:List Bool) (w:World) (hr:Rd w B 1 A m (l.map Value.bool)) (hB:B<=w.heap.size) (hm:m<=128):
 Calls Tryz.prog 211 #[.slice A m c] w fun e w'=>e=.returned (.tuple #[w.heap.size,.int .i64 0])/\Bk w' w.heap.size 230 (iI l)/\Below w.heap.size w w':=by
 have hll:l.length=m:=by simpa using hr.1
 obtain ⟨Hll,Hr⟩:=hqq2 hll (hr.mono hB);have hd:¬((m:Int) > 128):=oM;clear hr hll;obtain ⟨gb,hgb⟩:=eqx w.heap.size;go_enter Tryz.func211,Tryz.ntmps211;go_wp2;have hb0:=(Below.refl w.heap.size w).alloc nL (.cells #[(m:Int),.int .u64 0,.int .u64 0] 230);have hbk0:=Bk.new w 230 #[(m:Int),.int .u64 0,.int .u64 0];rw [hgb] at hbk0
 try rw [hgb]
 go_loopw [16] (fun i wr=>∃k:Nat,k<=m/\i=.int .i64 k/\Bk wr gb 230 #[(m:Int),.int .u64 ((w0 (l.take k):Nat):Int),.int .u64 ((w1 (l.take k):Nat):Int)]/\Below w.heap.size w wr) (fun i _=>m -(intOf i).toNat)
 case atStart=>exact ⟨0,zAp _,rfl,hbk0,hb0⟩
 case round=>
  obtain ⟨k,hk,rfl,hbk,hb⟩:=hrel;have hsz:=hb.size;by_cases hlt:k < m
  · have hkl:k < l.length:=(by rw [Hll.out];exact hlt);obtain ⟨x,hx⟩:∃x,l[k]?=some x:=⟨l[k],zAa hkl⟩;obtain ⟨b,off,u,rfl,hbl,hu,hc⟩:=(Hr.out.below hb).get hlt;rw [zAf,hx] at hu;simp at hu;subst hu;have htk:l.take (k+1)=l.take k++ [x]:=(by rw [zAv,hx];rfl);have hlk:(l.take k).length=k:=(by rw [zAj];omega);cases x with
    | false=>
      have hn:w0 (l.take (k+1))=w0 (l.take k)/\w1 (l.take (k+1))=w1 (l.take k):=(by rw [htk];rcases zBe k 64 with h | h;have:=aAv (l.take k) false oM;simpa using this;have:=aAw (l.take k) false oM;simpa using this);obtain ⟨Hn,Hbk⟩:=hqq2 hn hbk;clear hn htk hlk hx hbk;go_wp2;go_roundw
      case rel=>exact ⟨k+1,by omega,by go_num,by rw [Hn.out.1,Hn.out.2];exact Hbk.out,hb⟩
      case measure=>simp [intOf];omega
    | true=>
      rcases zBe k 64 with h64 | h64
      · obtain ⟨r,hr⟩:∃r:Nat,r=k:=⟨_,rfl⟩;have hq64:IntKind.i64.wrap ((k:Int)/ 64)=0:=(by rw [IntKind.wrap_i64];omega);have hm64:(k:Int).tmod 64=(r:Int):=(by rw [Int.tmod_eq_emod_of_nonneg oM];omega);have hu64:IntKind.u64.wrap (r:Int)=(r:Int):=(by rw [IntKind.wrap_u64];omega);have hr64:r < 64:=oM;obtain ⟨P,hP⟩:∃P:Nat,P=2 ^ r:=⟨_,rfl⟩;have hP64:P < 18446744073709551616:=(by have:=Nat.pow_lt_pow_right (a:=2) dC hr64;omega);obtain ⟨W,hW⟩:∃W:Nat,W=w0 (l.take k):=⟨_,rfl⟩;obtain ⟨Z,hZ⟩:∃Z:Nat,Z=w1 (l.take k):=⟨_,rfl⟩;obtain ⟨W2,hW2⟩:∃W2:Nat,W2=W+P:=⟨_,rfl⟩;have hWs:W < P:=(by have:=aHu (l.take k) oM;rw [hlk] at this;rw [hW,hP,hr];exact this);have hn:=aAv (l.take k) true oM;rw [<-htk,<-hW,<-hZ,hlk] at hn;have hn2:w0 (l.take (k+1))=W2/\w1 (l.take (k+1))=Z:=⟨by rw [hn.1,hW2,hP,hr];rfl,hn.2⟩;have hor:bits .or .u64 (W:Int) (P:Int)=(W2:Int):=(by rw [aGm W P oM hP64,hP,aIm W r (by rw [<-hP];exact hWs),hW2,hP]);have HW:=lhd hor;have hPP:IntKind.u64.wrap ((2:Int)^ r)=(P:Int):=(by rw [hP,IntKind.wrap_u64];have e:((2:Int)^ r)=((2 ^ r:Nat):Int):=(by push_cast;rfl);rw [e,<-hP];omega);obtain ⟨HP,Hn2⟩:=hqq2 hPP hn2;rw [<-hW,<-hZ] at hbk;clear hor hPP hn hn2 hW hZ hW2 hP hWs htk hlk hx hr;go_wp2;refine wp_region_any kR ?_;refine bH [22,23,24,25,26,27,28,29,30,31,32,33,34,35,36] (fun b=>b=gb) 15 [6,15] (fun w1=>Bk w1 gb 230 #[(m:Int),.int .u64 (W:Int),.int .u64 (Z:Int)]) (fun _ w1=>Bk w1 gb 230 #[(m:Int),.int .u64 (W2:Int),.int .u64 (Z:Int)]) [is (.pointer (some ⟨gb,0,none⟩)),is (k:Int),is (.int .i64 0),is (.pointer (some ⟨gb,0,none⟩)),is (.pointer (some ⟨gb,1,none⟩)),is (.pointer (some ⟨gb,1,none⟩)),is (.int .u64 (W:Int)),is (k:Int),is (r:Int),is (.int .u64 (r:Int)),is (.int .u64 (P:Int)),is (.int .u64 (W2:Int)),is (.pointer (some ⟨gb,0,none⟩)),is (.pointer (some ⟨gb,1,none⟩)),is (.pointer (some ⟨gb,1,none⟩)),cR] _ _ rfl kR kR (hbk) (fun w1 w2 h _ hg=>Bk.below h hg h.lt) (fun _ _ _ h k=>Bk.below h k h.lt) tA0 ?_ ?_
        · refine aM ?_;refine pH3 4 (.pointer (some ⟨gb,0,none⟩)) ?_;refine pH3 5 (.int .i64 (k:Int)) ?_;refine sC3 (fun _ _ _ _ _ _ _ hval _ _ _ hK=>?_) ?_
          · have e23:_=_:=hval 1 23 kR rfl;go_simp;exact hK _ _ (aJ bR) (dD (by first | rfl | omega))
          refine pV3 0 22 ?_;refine pV3 3 25 ?_;refine pW3 4 26 2 24 ?_;refine sC3 (fun _ w5 _ hU _ _ _ hval _ _ _ hK=>?_) ?_
          · have hpre:=hU rfl;have e27:_=_:=hval 5 27 kR rfl;have c28:w5.cell? ⟨gb,1,none⟩=some (.int .u64 (W:Int)):=(hpre.cell 1).trans rfl;go_simp;exact kq hK rfl
          refine pH3 5 (.int .i64 (k:Int)) ?_;refine sC3 (fun _ _ _ _ _ _ _ hval _ _ _ hK=>?_) ?_
          · have e29:_=_:=hval 7 29 kR rfl;go_simp;exact hK _ _ (aJ bR) (dD (by first | rfl | omega))
          refine sC3 (fun _ _ _ _ _ _ _ hval _ _ _ hK=>?_) ?_
          · have e30:_=_:=hval 8 30 kR rfl;go_simp;exact hK _ _ (aJ bR) (dN (by first | rfl | omega))
          refine sC3 (fun _ _ _ _ _ _ _ hval _ _ _ hK=>?_) ?_
          · have e31:_=_:=hval 9 31 kR rfl;go_simp;exact hK _ _ (aJ bR) (dN (by first | exact HP.out | simpa using HP.out))
          refine sC3 (fun _ _ _ _ _ _ _ hval _ _ _ hK=>?_) ?_
          · have e28:_=_:=hval 6 28 kR rfl;have e32:_=_:=hval 10 32 kR rfl;go_simp;exact hK _ _ (aJ bR) (dN HW.out)
          refine pV3 0 22 ?_;refine pV3 12 34 ?_;refine pW3 13 35 2 24 ?_;refine sC3 (fun _ w5 _ hU _ _ _ hval _ _ _ hK=>?_) ?_
          · have hpre:=hU rfl;have e36:_=_:=hval 14 36 kR rfl;have e33:_=_:=hval 11 33 kR rfl;have c28:w5.cell? ⟨gb,1,none⟩=some (.int .u64 (W:Int)):=(hpre.cell 1).trans rfl;have f28:=hpre.frozen 1;go_simp;exact hK (.bool true) _ (aW (Keep.setCell (F:=fun b=>b=gb) (Keep.refl _ _) (p:=⟨gb,1,none⟩) (.inl rfl) _)) (hpre.set 1 _)
          exact aC
        · intro ev w6 hS hval hall;replace hS:Keep (fun b=>b=gb) wr w6:=kD hS;obtain ⟨vJ,pJ⟩:∃v,(fun _ w1=>Bk w1 gb 230 #[(m:Int),.int .u64 (W2:Int),.int .u64 (Z:Int)]) v w6:=hall 15 dC;simp only [aI,zq1,zq2,Act.put,zq3,zq4,zq5];clear hval hall;have hb6:Below w.heap.size w w6:=hb.trans (hS.to_below hsz (fun b hb h=>absurd (show b=gb from h) oM));go_wp2;go_roundw
          case rel=>exact ⟨k+1,by omega,by go_num,by rw [Hn2.out.1,Hn2.out.2];exact pJ,hb6⟩
          case measure=>simp [intOf];omega
      · obtain ⟨r,hr⟩:∃r:Nat,r=k - 64:=⟨_,rfl⟩;have hq64:IntKind.i64.wrap ((k:Int)/ 64)=1:=(by rw [IntKind.wrap_i64];omega);have hm64:(k:Int).tmod 64=(r:Int):=(by rw [Int.tmod_eq_emod_of_nonneg oM];omega);have hu64:IntKind.u64.wrap (r:Int)=(r:Int):=(by rw [IntKind.wrap_u64];omega);have hr64:r < 64:=oM;obtain ⟨P,hP⟩:∃P:Nat,P=2 ^ r:=⟨_,rfl⟩;have hP64:P < 18446744073709551616:=(by have:=Nat.pow_lt_pow_right (a:=2) dC hr64;omega);obtain ⟨W,hW⟩:∃W:Nat,W=w1 (l.take k):=⟨_,rfl⟩;obtain ⟨Z,hZ⟩:∃Z:Nat,Z=w0 (l.take k):=⟨_,rfl⟩;obtain ⟨W2,hW2⟩:∃W2:Nat,W2=W+P:=⟨_,rfl⟩;have hWs:W < P:=(by have:=aHs (l.take k);rw [hlk] at this;rw [hW,hP,hr];exact this);have hn:=aAw (l.take k) true oM;rw [<-htk,<-hW,<-hZ,hlk] at hn;have hn2:w1 (l.take (k+1))=W2/\w0 (l.take (k+1))=Z:=⟨by rw [hn.2,hW2,hP,hr];rfl,hn.1⟩;have hor:bits .or .u64 (W:Int) (P:Int)=(W2:Int):=(by rw [aGm W P oM hP64,hP,aIm W r (by rw [<-hP];exact hWs),hW2,hP]);have HW:=lhd hor;have hPP:IntKind.u64.wrap ((2:Int)^ r)=(P:Int):=(by rw [hP,IntKind.wrap_u64];have e:((2:Int)^ r)=((2 ^ r:Nat):Int):=(by push_cast;rfl);rw [e,<-hP];omega);obtain ⟨HP,Hn2⟩:=hqq2 hPP hn2;rw [<-hW,<-hZ] at hbk;clear hor hPP hn hn2 hW hZ hW2 hP hWs htk hlk hx hr;go_wp2;refine wp_region_any kR ?_;refine bH [22,23,24,25,26,27,28,29,30,31,32,33,34,35,36] (fun b=>b=gb) 15 [6,15] (fun w1=>Bk w1 gb 230 #[(m:Int),.int .u64 (Z:Int),.int .u64 (W:Int)]) (fun _ w1=>Bk w1 gb 230 #[(m:Int),.int .u64 (Z:Int),.int .u64 (W2:Int)]) [is (.pointer (some ⟨gb,0,none⟩)),is (k:Int),is (.int .i64 1),is (.pointer (some ⟨gb,0,none⟩)),is (.pointer (some ⟨gb,1,none⟩)),is (.pointer (some ⟨gb,2,none⟩)),is (.int .u64 (W:Int)),is (k:Int),is (r:Int),is (.int .u64 (r:Int)),is (.int .u64 (P:Int)),is (.int .u64 (W2:Int)),is (.pointer (some ⟨gb,0,none⟩)),is (.pointer (some ⟨gb,1,none⟩)),is (.pointer (some ⟨gb,2,none⟩)),cR] _ _ rfl kR kR (hbk) (fun w1 w2 h _ hg=>Bk.below h hg h.lt) (fun _ _ _ h k=>Bk.below h k h.lt) tA0 ?_ ?_
        · refine aM ?_;refine pH3 4 (.pointer (some ⟨gb,0,none⟩)) ?_;refine pH3 5 (.int .i64 (k:Int)) ?_;refine sC3 (fun _ _ _ _ _ _ _ hval _ _ _ hK=>?_) ?_
          · have e23:_=_:=hval 1 23 kR rfl;go_simp;exact hK _ _ (aJ bR) (dD (by first | rfl | omega))
          refine pV3 0 22 ?_;refine pV3 3 25 ?_;refine pW3 4 26 2 24 ?_;refine sC3 (fun _ w5 _ hU _ _ _ hval _ _ _ hK=>?_) ?_
          · have hpre:=hU rfl;have e27:_=_:=hval 5 27 kR rfl;have c28:w5.cell? ⟨gb,2,none⟩=some (.int .u64 (W:Int)):=(hpre.cell 2).trans rfl;go_simp;exact kq hK rfl
          refine pH3 5 (.int .i64 (k:Int)) ?_;refine sC3 (fun _ _ _ _ _ _ _ hval _ _ _ hK=>?_) ?_
          · have e29:_=_:=hval 7 29 kR rfl;go_simp;exact hK _ _ (aJ bR) (dD (by first | rfl | omega))
          refine sC3 (fun _ _ _ _ _ _ _ hval _ _ _ hK=>?_) ?_
          · have e30:_=_:=hval 8 30 kR rfl;go_simp;exact hK _ _ (aJ bR) (dN (by first | rfl | omega))
          refine sC3 (fun _ _ _ _ _ _ _ hval _ _ _ hK=>?_) ?_
          · have e31:_=_:=hval 9 31 kR rfl;go_simp;exact hK _ _ (aJ bR) (dN (by first | exact HP.out | simpa using HP.out))
          refine sC3 (fun _ _ _ _ _ _ _ hval _ _ _ hK=>?_) ?_
          · have e28:_=_:=hval 6 28 kR rfl;have e32:_=_:=hval 10 32 kR rfl;go_simp;exact hK _ _ (aJ bR) (dN HW.out)
          refine pV3 0 22 ?_;refine pV3 12 34 ?_;refine pW3 13 35 2 24 ?_;refine sC3 (fun _ w5 _ hU _ _ _ hval _ _ _ hK=>?_) ?_
          · have hpre:=hU rfl;have e36:_=_:=hval 14 36 kR rfl;have e33:_=_:=hval 11 33 kR rfl;have c28:w5.cell? ⟨gb,2,none⟩=some (.int .u64 (W:Int)):=(hpre.cell 2).trans rfl;have f28:=hpre.frozen 2;go_simp;exact hK (.bool true) _ (aW (Keep.setCell (F:=fun b=>b=gb) (Keep.refl _ _) (p:=⟨gb,2,none⟩) (.inl rfl) _)) (hpre.set 2 _)
          exact aC
        · intro ev w6 hS hval hall;replace hS:Keep (fun b=>b=gb) wr w6:=kD hS;obtain ⟨vJ,pJ⟩:∃v,(fun _ w1=>Bk w1 gb 230 #[(m:Int),.int .u64 (Z:Int),.int .u64 (W2:Int)]) v w6:=hall 15 dC;simp only [aI,zq1,zq2,Act.put,zq3,zq4,zq5];clear hval hall;have hb6:Below w.heap.size w w6:=hb.trans (hS.to_below hsz (fun b hb h=>absurd (show b=gb from h) oM));go_wp2;go_roundw
          case rel=>exact ⟨k+1,by omega,by go_num,by rw [Hn2.out.1,Hn2.out.2];exact pJ,hb6⟩
          case measure=>simp [intOf];omega
  · have hge:m<=k:=oM;have htk:l.take k=l:=zAg (by have:=Hll.out;omega);rw [htk] at hbk;have hfin:Bk wr gb 230 (iI l):=(by unfold iI;rw [Hll.out];exact hbk);clear htk hbk;go_wp2;go_ret2;rw [hgb] at hb⊢;exact ⟨rfl,hfin,hb⟩
theorem sZ (gb:Nat) (l:List Bool) (w:World) (hb:Bk w gb 230 (iI l)):
 Calls Tryz.prog 247 #[gb] w fun e w'=>e=.returned (.int .i64 (l.length:Int))/\w=w':=by
 have c0:w.cell? ⟨gb,0,none⟩=some (.int .i64 (l.length:Int)):=(hb.cell 0).trans rfl;go_enter Tryz.func247,Tryz.ntmps247;go_wp2;go_ret;exact ⟨rfl,rfl⟩
theorem aK1 {w:World} {gb:Nat} {l:List Bool} (hb:Bk w gb 230 (iI l)):Rd w w.heap.size 1 (some ⟨gb,1,none⟩) 2 ([w0 l,w1 l].map uvn):=by
 refine ⟨rfl,fun _=>⟨gb,1,rfl,hb.lt,fun j u hu=>?_⟩⟩;rw [hb.cell];rcases j with _ | _ | j;exact hu;exact hu
 · simp at hu
theorem aAt (gb:Nat) (l:List Bool) (w:World) (hb:Bk w gb 230 (iI l)) (hl:l.length<=128):
 Calls Tryz.prog 271 #[gb] w fun e w'=>e=.returned (.int .i64 ((l.count true:Nat):Int))/\w=w':=by
 have hsum:(([w0 l,w1 l].map fun x=>bJ x 64).sum)=l.count true:=by rw [<-aKv l hl];simp
 go_enter Tryz.func271,Tryz.ntmps271;go_wp2_with fail;refine (iQ _ 2 2 _ [w0 l,w1 l] _ (aK1 hb) (by intro n hn;simp at hn;rcases hn with rfl | rfl;exact nM l;exact nH l hl) oM).mono ?_;rintro e w' ⟨rfl,rfl⟩;rw [hsum];go_wp2;go_ret;exact ⟨rfl,rfl⟩
theorem ix0 (a b:Int) (w:World):(Instr.index 228 (.agg #[.int .u64 a,.int .u64 b]) (.int .i64 0)).run Tryz.prog w=.ok (.int .u64 a) w:=by kernel_rfl
theorem ix1 (a b:Int) (w:World):(Instr.index 228 (.agg #[.int .u64 a,.int .u64 b]) (.int .i64 1)).run Tryz.prog w=.ok (.int .u64 b) w:=by kernel_rfl
theorem aAs (gb:Nat) (l:List Bool) (k:Nat) (w:World) (hb:Bk w gb 230 (iI l)) (hl:l.length<=128) (hk:k<=l.length):
 Calls Tryz.prog 210 #[gb,(k:Int)] w fun e w'=>e=.returned (.int .i64 (((l.take k).count true:Nat):Int))/\Below w.heap.size w w':=by
 have hfin:=aKu l k hl hk;obtain ⟨n,hn⟩:=eqx l.length;obtain ⟨u0,hu0⟩:∃u,w0 l=u:=⟨_,rfl⟩;obtain ⟨u1,hu1⟩:∃u,w1 l=u:=⟨_,rfl⟩;have b0:u0 < 18446744073709551616:=by rw [<-hu0];exact nM l
 have b1:u1 < 18446744073709551616:=by rw [<-hu1];exact nH l hl
 have r0:xC u0 (k:Int)=bJ u0 (min k 64):=by unfold xC;rw [zBr]
 have r1:xC u1 ((k:Int) - 64)=bJ u1 (min (k - 64) 64):=by unfold xC;congr 2;omega
 rw [hu0,hu1] at hfin;have l0:=oQ u0 (min k 64);have l1:=oQ u1 (min (k - 64) 64);have c0:w.cell? ⟨gb,0,none⟩=some (.int .i64 (n:Int)):=by rw [<-hn];exact (hb.cell 0).trans rfl
 have c1:w.cell? ⟨gb,1,none⟩=some (.int .u64 (u0:Int)):=by rw [<-hu0];exact (hb.cell 1).trans rfl
 have c2:w.cell? ⟨gb,2,none⟩=some (.int .u64 (u1:Int)):=by rw [<-hu1];exact (hb.cell 2).trans rfl
 have hlt:=hb.lt;have hkn:k<=n:=oM;have hn128:n<=128:=oM;have m1:max (k:Int) 0=(k:Int):=oM;have m2:min (k:Int) (n:Int)=(k:Int):=oM;obtain ⟨Hfin,R0⟩:=hqq2 hfin r0;have k0:=ix0;have k1:=ix1;have R1:=lhd r1;clear hb hfin hu0 hu1 hn hk r0 r1;go_enter Tryz.func210,Tryz.ntmps210;go_wp2_with fail;go_loopw [5,14] (fun v i wr=>∃j:Nat,j<=2/\i=.int .i64 j/\v=.int .i64 (((if j=0 then 0 else if j=1 then bJ u0 (min k 64) else (l.take k).count true):Nat):Int)/\Below w.heap.size w wr) (fun _ i _=>2 -(intOf i).toNat)
 case atStart=>exact ⟨0,by omega,rfl,rfl,Below.refl _ _⟩
 case round=>
  obtain ⟨j,hj,rfl,rfl,hb⟩:=hrel;have hsz:=hb.size;have d0:wr.cell? ⟨gb,0,none⟩=some (.int .i64 (n:Int)):=(hb.cell hlt).trans c0;rcases j with _ | _ | _ | j
  · clear c1 c2;simp only [if_true];go_wp2_with fail;refine (tB u0 (k:Int) b0 oM _).mono ?_;rintro e w' ⟨rfl,hb'⟩;rw [R0.out];have hB:=hb.trans (hb'.mono hsz);go_wp2_with fail;go_roundw
    case rel=>exact ⟨1,by omega,by go_num,by simp,hB⟩
    case measure=>simp [intOf]
  · clear c1 c2;simp only [zBi,Nat.one_ne_zero,if_false,if_true];go_wp2_with fail;refine (tB u1 ((k:Int) - 64) b1 oM _).mono ?_;rintro e w' ⟨rfl,hb'⟩;rw [R1.out];have hB:=hb.trans (hb'.mono hsz);have hsum:(((bJ u0 (min k 64):Nat):Int)+((bJ u1 (min (k - 64) 64):Nat):Int))=(((l.take k).count true:Nat):Int):=(by rw [<-Hfin.out];push_cast;rfl);go_wp2_with fail;go_roundw
    case rel=>exact ⟨2,by omega,by go_num,by first | rfl |(simp;done)| exact dD (by simpa using hsum),hB⟩
    case measure=>simp [intOf]
  · simp only [show ¬(0+1+1=0) by omega,show ¬(0+1+1=1) by omega,if_false];go_wp2;go_ret;exact ⟨rfl,hb⟩
  omega
def aAH (x y:Int) (gb:Nat):List Value:= [.int .i64 (-1),.int .i64 (-1),.int .i64 0,.int .i64 x,.int .i64 y,.int .i64 0,.int .i64 0,.pointer (some ⟨gb,0,none⟩)]
def RowS (B gl cl gb:Nat) (x y:Int) (w:World):Prop:=w.ownsRow B 205 8 (.slice (some ⟨gl,0,none⟩) 1 cl) 1 (aAH x y gb)
theorem RowS.grow {B gl cl gb:Nat} {x y:Int} {w w':World} (h:RowS B gl cl gb x y w) (k:Below w.heap.size w w'):RowS B gl cl gb x y w':=aP h k
theorem RowS.at3 {B gl cl gb:Nat} {x y:Int} {w:World} (h:RowS B gl cl gb x y w) (z:Int):RowS B gl cl gb z y (w.setCell ⟨gl,3,none⟩ (.int .i64 z)):=(World.ownsRow.stored h 3 (.int .i64 z)).1
theorem RowS.at4 {B gl cl gb:Nat} {x y:Int} {w:World} (h:RowS B gl cl gb x y w) (z:Int):RowS B gl cl gb x z (w.setCell ⟨gl,4,none⟩ (.int .i64 z)):=(World.ownsRow.stored h 4 (.int .i64 z)).1
theorem RowS.lt {B gl cl gb:Nat} {x y:Int} {w:World} (h:RowS B gl cl gb x y w):B<=gl/\gl < w.heap.size:=World.ownsRow.lt h gl rfl
theorem RowS.bk_ne {B gl cl gb g:Nat} {x y:Int} {w:World} {t:TypeId} {cs:Array Value} (h:RowS B gl cl gb x y w) (hg:Bk w g t cs) (hne:205≠t):g≠gl:=fun e=>aY h hg hne (by rw [e];rfl)
def aLe (W0:World) (B gl cl gb:Nat) (w1:World):Prop:=Keep (fun b=>b=gl) W0 w1/\∃x y,RowS B gl cl gb x y w1
def aLd (B gl cl gb:Nat) (N O:Int) (j:Nat) (w1 w2:World):Prop:=
 (j=14->Keep (fun b=>b=gl) w1 w2/\∀x y,RowS B gl cl gb x y w1->RowS B gl cl gb N y w2)/\(j=17->Keep (fun b=>b=gl) w1 w2/\∀x y,RowS B gl cl gb x y w1->RowS B gl cl gb x O w2)/\(j≠14->j≠17->Grow w1 w2)
theorem cS {B gl cl gb:Nat} {N O:Int} {j:Nat} {w1 w2:World} (h1:j≠14) (h2:j≠17) (h:Grow w1 w2):aLd B gl cl gb N O j w1 w2:=⟨fun e=>absurd e h1,fun e=>absurd e h2,fun _ _=>h⟩
theorem aGz {W0 w1 w2:World} {B gl cl gb j:Nat} {N O:Int} (h:aLe W0 B gl cl gb w1) (k:aLd B gl cl gb N O j w1 w2):aLe W0 B gl cl gb w2:=by
 obtain ⟨h1,x,y,h2⟩:=h;by_cases h14:j=14;obtain ⟨k1,k2⟩:=k.1 h14;exact ⟨h1.trans k1,_,_,k2 x y h2⟩;by_cases h17:j=17;obtain ⟨k1,k2⟩:=k.2.1 h17;exact ⟨h1.trans k1,_,_,k2 x y h2⟩;have kg:=k.2.2 h14 h17;exact ⟨h1.trans (Keep.of_below kg),x,y,h2.grow kg⟩
def N3 (B gl cl gb:Nat) (N:Int):Value->World->Prop:=fun _ w1=>∃y,RowS B gl cl gb N y w1
def N4 (B gl cl gb:Nat) (O:Int):Value->World->Prop:=fun _ w1=>∃x,RowS B gl cl gb x O w1
theorem rS (gt ga gl cl gb B:Nat) (rt v:Int) (bs:List Bool) (w:World) (ht:Bk w gt 202 #[ga,.slice (some ⟨gl,0,none⟩) 1 cl,.int .i64 rt,.int .i64 v]) {x0 y0:Int} (hr:RowS B gl cl gb x0 y0 w) (hb:Bk w gb 230 (iI bs)) (hl:bs.length<=128):
 Calls Tryz.prog 250 #[gt,.int .i64 0] w fun e w'=>e=.returned (.tuple #[])/\Keep (fun b=>b=gl) w w'/\RowS B gl cl gb (bs.length:Int) ((bs.count true:Nat):Int) w':=by
 obtain ⟨N,hN⟩:∃N:Int,(bs.length:Int)=N:=⟨_,rfl⟩;obtain ⟨O,hO⟩:∃O:Int,((bs.count true:Nat):Int)=O:=⟨_,rfl⟩;rw [hN,hO];obtain ⟨HN,HO⟩:=hqq2 hN hO;have c1:w.cell? ⟨gt,1,none⟩=some (.slice (some ⟨gl,0,none⟩) 1 cl):=(ht.cell 1).trans rfl;have c7:w.cell? ⟨gl,7,none⟩=some (.pointer (some ⟨gb,0,none⟩)):=(World.ownsRow.cellAt hr 7 oM).trans rfl;have hglt:=hr.lt;have hbne:=hr.bk_ne hb dC;obtain ⟨Hb,Hr⟩:=hqq2 hb hr;clear hN hO ht hb hr;go_enter Tryz.func250,Tryz.ntmps250;go_wp2;refine wp_region_any kR ?_;refine qR [18,19,20,21,22,23,24,25,26,27,28,29,30,31,32,33] (aLe w B gl cl gb) (aLd B gl cl gb N O) (fun _ _=>True) (Vs [is gl,is gl,is gl,is gl,is (.pointer (some ⟨gl,7,none⟩)),is gb,is (.int .i64 N),is gl,is gl,is (.pointer (some ⟨gl,7,none⟩)),is gb,is (.int .i64 O),is gl,is (.pointer (some ⟨gl,3,none⟩)),N3 B gl cl gb N,is gl,is (.pointer (some ⟨gl,4,none⟩)),N4 B gl cl gb O]) _ _ rfl kR ⟨⟨rfl,rfl,rfl,zAs _,fun _ _ _=>rfl⟩,_,_,Hr.out⟩ (fun _=>trivial) (fun j w1 w2 h k=>aGz h k) (fun _ _ _ _ _ _ _ _ _=>trivial) ?_ ?_ ?_;intro i j v w1 w2 hij haf hv hC k;rcases i with _ | _ | _ | _ | _ | _ | _ | _ | _ | _ | _ | _ | _ | _ | _ | _ | _ | _ | i;exact hv;exact hv;exact hv;exact hv;exact hv;exact hv;exact hv;exact hv;exact hv;exact hv;exact hv;exact hv;exact hv;exact hv;obtain ⟨y,hv⟩:=hv;by_cases h17:j=17;exact ⟨_,(k.2.1 h17).2 _ _ hv⟩;exact ⟨_,RowS.grow hv (k.2.2 (fun e=>hij e.symm) h17)⟩;exact hv;exact hv;obtain ⟨x,hv⟩:=hv;by_cases h14:j=14;exact ⟨_,(k.1 h14).2 _ _ hv⟩;exact ⟨_,RowS.grow hv (k.2.2 h14 (fun e=>hij e.symm))⟩;exact trivial
 · refine aM ?_;refine sC3 (fun ev _ hS _ _ _ hold _ _ _ _ hK=>?_) ?_
   · obtain ⟨hk5,x5,y5,hr5⟩:=hS;have e4:ev (.tmp 4)=.pointer (some ⟨gl,0,none⟩):=hold 4 kR;go_simp;exact hK _ _ (cS dC dC bR) rfl
   refine sC3 (fun ev _ hS _ _ _ hold _ _ _ _ hK=>?_) ?_
   · obtain ⟨hk5,x5,y5,hr5⟩:=hS;have e4:ev (.tmp 4)=.pointer (some ⟨gl,0,none⟩):=hold 4 kR;go_simp;exact hK _ _ (cS dC dC bR) rfl
   refine sC3 (fun ev _ hS _ _ _ hold _ _ _ _ hK=>?_) ?_
   · obtain ⟨hk5,x5,y5,hr5⟩:=hS;have e4:ev (.tmp 4)=.pointer (some ⟨gl,0,none⟩):=hold 4 kR;go_simp;exact hK _ _ (cS dC dC bR) rfl
   refine sC3 (fun _ _ hS _ _ _ _ hval _ _ _ hK=>?_) ?_
   · obtain ⟨hk5,x5,y5,hr5⟩:=hS;have e20:_=_:=hval 2 20 kR rfl;go_simp;exact hK _ _ (cS dC dC bR) rfl
   refine sC3 (fun _ _ hS _ _ _ _ hval _ _ _ hK=>?_) ?_
   · obtain ⟨hk5,x5,y5,hr5⟩:=hS;have e21:_=_:=hval 3 21 kR rfl;go_simp;exact hK _ _ (cS dC dC bR) rfl
   refine sC3 (fun _ w5 hS _ _ _ _ hval _ _ _ hK=>?_) ?_
   · obtain ⟨hk5,x5,y5,hr5⟩:=hS;have e22:_=_:=hval 4 22 kR rfl;have d7:w5.cell? ⟨gl,7,none⟩=some (.pointer (some ⟨gb,0,none⟩)):=(World.ownsRow.cellAt hr5 7 oM).trans rfl;go_simp;exact hK _ _ (cS dC dC bR) rfl
   refine sC3 (fun _ w5 hS _ _ _ _ hval _ _ _ hK=>?_) ?_
   · obtain ⟨hk5,x5,y5,hr5⟩:=hS;have e23:_=_:=hval 5 23 kR rfl;have hb5:=hk5.bk Hb.out (fun e=>hbne e);go_simp;refine (sZ gb bs w5 hb5).mono ?_;rintro e w8 ⟨rfl,rfl⟩;exact hK _ _ (cS dC dC bR) (dD HN.out)
   refine sC3 (fun ev _ hS _ _ _ hold _ _ _ _ hK=>?_) ?_
   · obtain ⟨hk5,x5,y5,hr5⟩:=hS;have e4:ev (.tmp 4)=.pointer (some ⟨gl,0,none⟩):=hold 4 kR;go_simp;exact hK _ _ (cS dC dC bR) rfl
   refine sC3 (fun _ _ hS _ _ _ _ hval _ _ _ hK=>?_) ?_
   · obtain ⟨hk5,x5,y5,hr5⟩:=hS;have e25:_=_:=hval 7 25 kR rfl;go_simp;exact hK _ _ (cS dC dC bR) rfl
   refine sC3 (fun _ _ hS _ _ _ _ hval _ _ _ hK=>?_) ?_
   · obtain ⟨hk5,x5,y5,hr5⟩:=hS;have e26:_=_:=hval 8 26 kR rfl;go_simp;exact hK _ _ (cS dC dC bR) rfl
   refine sC3 (fun _ w5 hS _ _ _ _ hval _ _ _ hK=>?_) ?_
   · obtain ⟨hk5,x5,y5,hr5⟩:=hS;have e27:_=_:=hval 9 27 kR rfl;have d7:w5.cell? ⟨gl,7,none⟩=some (.pointer (some ⟨gb,0,none⟩)):=(World.ownsRow.cellAt hr5 7 oM).trans rfl;go_simp;exact hK _ _ (cS dC dC bR) rfl
   refine sC3 (fun _ w5 hS _ _ _ _ hval _ _ _ hK=>?_) ?_
   · obtain ⟨hk5,x5,y5,hr5⟩:=hS;have e28:_=_:=hval 10 28 kR rfl;have hb5:=hk5.bk Hb.out (fun e=>hbne e);go_simp;refine (aAt gb bs w5 hb5 hl).mono ?_;rintro e w8 ⟨rfl,rfl⟩;exact hK _ _ (cS dC dC bR) (dD HO.out)
   refine sC3 (fun _ _ hS _ _ _ _ hval _ _ _ hK=>?_) ?_
   · obtain ⟨hk5,x5,y5,hr5⟩:=hS;have e18:_=_:=hval 0 18 kR rfl;go_simp;exact hK _ _ (cS dC dC bR) rfl
   refine sC3 (fun _ _ hS _ _ _ _ hval _ _ _ hK=>?_) ?_
   · obtain ⟨hk5,x5,y5,hr5⟩:=hS;have e30:_=_:=hval 12 30 kR rfl;go_simp;exact hK _ _ (cS dC dC bR) rfl
   refine sC3 (fun _ w5 hS _ _ _ _ hval _ _ _ hK=>?_) ?_
   · obtain ⟨hk5,x5,y5,hr5⟩:=hS;have e31:_=_:=hval 13 31 kR rfl;have e24:_=_:=hval 6 24 kR rfl;have d3:w5.cell? ⟨gl,3,none⟩=some (.int .i64 x5):=(World.ownsRow.cellAt hr5 3 oM).trans rfl;have f3:=World.ownsRow.frozenAt hr5 3;go_simp;exact hK (.bool true) _ ⟨fun _=>⟨Keep.setCell (F:=fun b=>b=gl) (Keep.refl _ _) (p:=⟨gl,3,none⟩) (.inl rfl) _,fun x y h=>h.at3 N⟩,fun e=>absurd e dC,fun e=>absurd rfl e⟩ ⟨y5,hr5.at3 N⟩
   refine sC3 (fun _ _ hS _ _ _ _ hval _ _ _ hK=>?_) ?_
   · obtain ⟨hk5,x5,y5,hr5⟩:=hS;have e19:_=_:=hval 1 19 kR rfl;go_simp;exact hK _ _ (cS dC dC bR) rfl
   refine sC3 (fun _ _ hS _ _ _ _ hval _ _ _ hK=>?_) ?_
   · obtain ⟨hk5,x5,y5,hr5⟩:=hS;have e32:_=_:=hval 15 32 kR rfl;go_simp;exact hK _ _ (cS dC dC bR) rfl
   refine sC3 (fun _ w5 hS _ _ _ _ hval _ _ _ hK=>?_) ?_
   · obtain ⟨hk5,x5,y5,hr5⟩:=hS;have e33:_=_:=hval 16 33 kR rfl;have e29:_=_:=hval 11 29 kR rfl;have d4:w5.cell? ⟨gl,4,none⟩=some (.int .i64 y5):=(World.ownsRow.cellAt hr5 4 oM).trans rfl;have f4:=World.ownsRow.frozenAt hr5 4;go_simp;exact hK (.bool true) _ ⟨fun e=>absurd e dC,fun _=>⟨Keep.setCell (F:=fun b=>b=gl) (Keep.refl _ _) (p:=⟨gl,4,none⟩) (.inl rfl) _,fun x y h=>h.at4 O⟩,fun _ e=>absurd rfl e⟩ ⟨x5,hr5.at4 O⟩
   exact aC
 · intro ev w6 hS hval hall;obtain ⟨hk6,_⟩:=hS;obtain ⟨_,y6,h14⟩:∃v,N3 B gl cl gb N v w6:=hall 14 dC;obtain ⟨_,x6,h17⟩:∃v,N4 B gl cl gb O v w6:=hall 17 dC;have hfin:RowS B gl cl gb N O w6:=(by have q4:=(World.ownsRow.cellAt h14 4 oM).symm.trans (World.ownsRow.cellAt h17 4 oM);have q5:y6=O:=(by simpa [aAH] using q4);rw [<-q5];exact h14);simp only [aI,zq1,zq2,Act.put,zq3,zq4,zq5];clear hval hall;go_wp2;exact bodyPost_ret (results_none rfl _ _ _) rfl ⟨rfl,hk6,hfin⟩
end
end Go.Proofs.YthldmddkfbijhaaGreatDoor
