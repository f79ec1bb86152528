/- The walks of math/bits.OnesCount64 and of bits.low, Count, Rank. No conditions. Bits in a word: the plain laws behind block. No program in sight. No conditions. A region that draws its order, each of whose operations yields a value of which a stable property holds, whatever came up before: no order is walked. No conditions. The plain laws of numbers as bytes: back and forth, cut off, in order. No program in sight. Four bytes come back as their number (plain Lean). No conditions. -/
import Derived.Test.YtipaccakmndkgaaGreatDoorPsl0
import Derived.Laws.BitsLemmas
import Derived.Laws.Bits64
import Derived.Orders
import GoSem.Op.String
set_option linter.unusedVariables false
set_option linter.unusedSimpArgs false
set_option maxRecDepth 100000
set_option maxHeartbeats 1000000
namespace Go.Proofs.YtipaccakmndkgaaGreatDoor
open Go.RowKit
theorem and64 (a b:Nat) (ha:a < 18446744073709551616) (hb:b < 18446744073709551616):bits .and .u64 (a:Int) (b:Int)=((a&&& b:Nat):Int):=
 (bits_nat .u64 64 (by decide) (fun n h0 h1=>by rw [IntKind.wrap_u64];omega) a b (by omega) (by omega)).1
theorem shr_and (x k m d:Nat) (hx:x < 18446744073709551616) (hm:m < 18446744073709551616) (hd:2 ^ k=d):bits .and .u64 ((x:Int)/(d:Int)) (m:Int)=((x >>> k&&& m:Nat):Int):=by
 have h1:((x:Int)/(d:Int))=((x >>> k:Nat):Int):=by
  rw [Nat.shiftRight_eq_div_pow,hd]
  push_cast
  rfl
 have h2:x >>> k < 18446744073709551616:=by
  rw [Nat.shiftRight_eq_div_pow]
  exact Nat.lt_of_le_of_lt (Nat.div_le_self _ _) hx
 rw [h1,and64 _ _ h2 hm]
theorem OnesCount_any (x:Nat) (hx:x < 18446744073709551616) (w:World):
 Calls Tryz.prog 291 #[.int .u64 (x:Int)] w fun e w'=>e=.returned (.int .i64 ((ones x 64:Nat):Int))∧w=w':=by
 obtain ⟨p1,hp1⟩:∃p,p=x >>> 1&&& 6148914691236517205:=⟨_,rfl⟩
 obtain ⟨p2,hp2⟩:∃p,p=x&&& 6148914691236517205:=⟨_,rfl⟩
 have b1:p1≤6148914691236517205:=by rw [hp1];exact Nat.and_le_right
 have b2:p2≤6148914691236517205:=by rw [hp2];exact Nat.and_le_right
 obtain ⟨y1,hy1⟩:∃y,y=p1+p2:=⟨_,rfl⟩
 obtain ⟨q1,hq1⟩:∃p,p=y1 >>> 2&&& 3689348814741910323:=⟨_,rfl⟩
 obtain ⟨q2,hq2⟩:∃p,p=y1&&& 3689348814741910323:=⟨_,rfl⟩
 have b3:q1≤3689348814741910323:=by rw [hq1];exact Nat.and_le_right
 have b4:q2≤3689348814741910323:=by rw [hq2];exact Nat.and_le_right
 obtain ⟨y2,hy2⟩:∃y,y=q1+q2:=⟨_,rfl⟩
 obtain ⟨r1,hr1⟩:∃r,r=y2 >>> 4+y2:=⟨_,rfl⟩
 have hr1':r1=y2 / 16+y2:=by rw [hr1,Nat.shiftRight_eq_div_pow]
 obtain ⟨y3,hy3⟩:∃y,y=r1&&& 1085102592571150095:=⟨_,rfl⟩
 have b5:y3≤1085102592571150095:=by rw [hy3];exact Nat.and_le_right
 obtain ⟨y4,hy4⟩:∃y,y=y3+y3 / 256:=⟨_,rfl⟩
 obtain ⟨y5,hy5⟩:∃y,y=y4+y4 / 65536:=⟨_,rfl⟩
 obtain ⟨y6,hy6⟩:∃y,y=y5+y5 / 4294967296:=⟨_,rfl⟩
 have hs:y3=swar3 x:=by rw [hy3,hr1,hy2,hq1,hq2,hy1,hp1,hp2];rfl
 obtain ⟨hfin,hlt⟩:=swar x hx y4 y5 y6 (by rw [←hs];exact hy4) hy5 hy6
 have k1:bits .and .u64 ((x:Int)/ 2) 6148914691236517205=(p1:Int):=by rw [hp1];exact shr_and x 1 6148914691236517205 2 hx (by omega) (by decide)
 have k2:bits .and .u64 (x:Int) 6148914691236517205=(p2:Int):=by rw [hp2];exact and64 x 6148914691236517205 hx (by omega)
 have k3:IntKind.u64.wrap ((p1:Int)+(p2:Int))=(y1:Int):=by rw [IntKind.wrap_u64];omega
 have k4:bits .and .u64 ((y1:Int)/ 4) 3689348814741910323=(q1:Int):=by rw [hq1];exact shr_and y1 2 3689348814741910323 4 (by omega) (by omega) (by decide)
 have k5:bits .and .u64 (y1:Int) 3689348814741910323=(q2:Int):=by rw [hq2];exact and64 y1 3689348814741910323 (by omega) (by omega)
 have k6:IntKind.u64.wrap ((q1:Int)+(q2:Int))=(y2:Int):=by rw [IntKind.wrap_u64];omega
 have k7:IntKind.u64.wrap ((y2:Int)/ 16+(y2:Int))=(r1:Int):=by rw [IntKind.wrap_u64];omega
 have k8:bits .and .u64 (r1:Int) 1085102592571150095=(y3:Int):=by rw [hy3];exact and64 r1 1085102592571150095 (by omega) (by omega)
 have k9:IntKind.u64.wrap ((y3:Int)+(y3:Int)/ 256)=(y4:Int):=by rw [IntKind.wrap_u64];omega
 have k10:IntKind.u64.wrap ((y4:Int)+(y4:Int)/ 65536)=(y5:Int):=by rw [IntKind.wrap_u64];omega
 have k11:IntKind.u64.wrap ((y5:Int)+(y5:Int)/ 4294967296)=(y6:Int):=by rw [IntKind.wrap_u64];omega
 have hy6b:y6 < 9223372036854775808:=by omega
 have k12:bits .and .i64 (y6:Int) 127=((ones x 64:Nat):Int):=by
  have:=bits_mask .i64 63 (by decide) (fun n h0 h1=>by rw [IntKind.wrap_i64];omega) 7 (by decide) (y6:Int) (by omega) (by omega)
  rw [show ((2:Int)^ 7 - 1)=127 by decide,show ((2:Int)^ 7)=128 by decide] at this
  rw [this,←hfin]
  omega
 clear hp1 hp2 hy1 hq1 hq2 hy2 hr1 hr1' hy3 hy4 hy5 hy6 hs hfin b1 b2 b3 b4 b5
 go_enter Tryz.func291,Tryz.ntmps291
 go_wp2
 go_ret
 exact ⟨ret_i64 (by first | exact k12 | simp [k12]),rfl⟩
theorem ones_low (x m n:Nat) (h:m≤n):ones (x % 2 ^ m) n=ones x m:=by
 obtain ⟨d,rfl⟩:∃d,n=m+d:=⟨n - m,by omega⟩
 rw [ones_add,ones_mod]
 have:(x % 2 ^ m)>>> m=0:=by
  rw [Nat.shiftRight_eq_div_pow]
  exact Nat.div_eq_of_lt (Nat.mod_lt _ (Nat.two_pow_pos m))
 rw [this]
 have z:∀d,ones 0 d=0:=fun d=>by
  unfold ones
  simp
 rw [z]
 rfl
def lowN (x:Nat) (k:Int):Nat:=x % 2 ^(min k.toNat 64)
def uvn (n:Nat):Value:=.int .u64 (n:Int)
theorem low_any (x:Nat) (k:Int) (hx:x < 18446744073709551616) (hk:-9223372036854775808≤k∧k≤9223372036854775807) (w:World):
 Calls Tryz.prog 283 #[.int .u64 (x:Int),.int .i64 k] w fun e w'=>e=.returned (.int .u64 ((lowN x k:Nat):Int))∧w=w':=by
 unfold lowN
 by_cases h0:k≤0
 · have e0:x % 2 ^(min k.toNat 64)=0:=by
    rw [show k.toNat=0 by omega]
    simp [Nat.mod_one]
   rw [e0]
   go_enter Tryz.func283,Tryz.ntmps283
   go_wp2
   go_ret
   exact ⟨rfl,rfl⟩
 · by_cases h1:k≥64
   · have e1:x % 2 ^(min k.toNat 64)=x:=by
        rw [show min k.toNat 64=64 by omega]
        exact Nat.mod_eq_of_lt (by omega)
     rw [e1]
     have h2:¬(k≤0):=h0
     go_enter Tryz.func283,Tryz.ntmps283
     go_wp2
     go_ret
     exact ⟨rfl,rfl⟩
   · obtain ⟨m,rfl⟩:∃m:Nat,k=(m:Int):=⟨k.toNat,by omega⟩
     have hm:m < 64:=by omega
     have d0:decide ((m:Int)≤0)=false:=by simp;omega
     have d1:decide ((m:Int)≥64)=false:=by simp;omega
     have e2:min (m:Int).toNat 64=m:=by omega
     rw [e2]
     have hp:2 ^ m < 18446744073709551616:=by
        have:=Nat.pow_lt_pow_right (a:=2) (by decide) hm
        omega
     have hpi:((2:Int)^ m)=((2 ^ m:Nat):Int):=by push_cast;rfl
     have hpos:=Nat.two_pow_pos m
     have h1':IntKind.u64.wrap ((2:Int)^ m)=(2:Int)^ m:=by rw [hpi,IntKind.wrap_u64];omega
     have h2':IntKind.u64.wrap ((2:Int)^ m - 1)=(2:Int)^ m - 1:=by rw [hpi,IntKind.wrap_u64];omega
     have h3:bits .and .u64 (x:Int) ((2:Int)^ m - 1)=(x:Int)% 2 ^ m:=bits_mask .u64 64 (by decide) (fun n h0 h1=>by rw [IntKind.wrap_u64];omega) m (by omega) (x:Int) (by omega) (by omega)
     clear hpi
     go_enter Tryz.func283,Tryz.ntmps283
     go_wp2
     go_ret
     exact ⟨by first | rfl | simp,rfl⟩
theorem Count_any (A:Option Addr) (m c B:Nat) (l:List Nat) (w:World) (hr:Rd w B 1 A m (l.map uvn)) (hl:∀n∈l,n < 18446744073709551616) (hm:m≤1048576):
 Calls Tryz.prog 275 #[.slice A m c] w fun e w'=>e=.returned (.int .i64 (((l.map fun x=>ones x 64).sum:Nat):Int))∧w=w':=by
 have hll:l.length=m:=by simpa using hr.1
 have Hr:=lhd hr
 have Hl:=lhd hl
 have Hll:=lhd hll
 have hb:∀k,((l.take k).map fun x=>ones x 64).sum≤k*64:=fun k=>by
  induction k with
  | zero=>simp
  | succ k ih=>
    by_cases hk:k < l.length
    · rw [List.take_succ_eq_append_getElem hk,List.map_append,List.sum_append]
      have:=ones_le l[k] 64
      simp only [List.map_cons,List.map_nil,List.sum_cons,List.sum_nil]
      omega
    · rw [List.take_of_length_le (by omega)]
      rw [List.take_of_length_le (by omega)] at ih
      omega
 have Hb:=lhd hb
 clear hr hl hll hb
 go_enter Tryz.func275,Tryz.ntmps275
 go_wp2
 go_loopw [3,8] (fun v i wr=>∃k:Nat,k≤m∧i=.int .i64 k∧v=.int .i64 ((((l.take k).map fun x=>ones x 64).sum:Nat):Int)∧w=wr) (fun _ i _=>m -(intOf i).toNat)
 case atStart=>exact ⟨0,Nat.zero_le _,rfl,by simp,rfl⟩
 case round=>
  obtain ⟨k,hk,rfl,rfl,rfl⟩:=hrel
  by_cases hlt:k < m
  · have hkl:k < l.length:=by rw [Hll.out];exact hlt
    obtain ⟨x,hx⟩:∃x,l[k]?=some x:=⟨l[k],List.getElem?_eq_getElem hkl⟩
    obtain ⟨b,off,u,rfl,hbl,hu,hc⟩:=Hr.out.get hlt
    rw [List.getElem?_map,hx] at hu
    simp at hu
    subst hu
    unfold uvn at hc
    have hx64:=Hl.out x (List.mem_of_getElem? hx)
    have hnx:((l.take (k+1)).map fun x=>ones x 64).sum=((l.take k).map fun x=>ones x 64).sum+ones x 64:=by
        rw [List.take_add_one,hx]
        simp
    have hbd:=Hb.out k
    have h64:=ones_le x 64
    generalize ((l.take k).map fun x=>ones x 64).sum=q at*
    have Hnx:=lhd hnx
    clear hnx hx
    go_wp2_with fail
    refine (OnesCount_any x hx64 _).mono ?_
    rintro e w' ⟨rfl,rfl⟩
    go_wp2
    go_roundw
    case rel=>exact ⟨k+1,by omega,by go_num,by rw [Hnx.out];go_num,trivial⟩
    case measure=>simp [intOf];omega
  · have hge:m≤k:=by omega
    have htk:l.take k=l:=List.take_of_length_le (by have:=Hll.out;omega)
    rw [htk]
    clear htk
    go_wp2
    go_ret
    exact ⟨rfl,rfl⟩
def rankN (x:Nat) (k:Int):Nat:=ones x (min k.toNat 64)
theorem BitsRank_any (x:Nat) (k:Int) (hx:x < 18446744073709551616) (hk:-9223372036854775808≤k∧k≤9223372036854775807) (w:World):
 Calls Tryz.prog 267 #[.int .u64 (x:Int),.int .i64 k] w fun e w'=>e=.returned (.int .i64 ((rankN x k:Nat):Int))∧Below w.heap.size w w':=by
 have hlow:lowN x k < 18446744073709551616:=by
  unfold lowN
  exact Nat.lt_of_le_of_lt (Nat.mod_le _ _) hx
 have hfin:ones (lowN x k) 64=rankN x k:=ones_low x _ 64 (Nat.min_le_right _ _)
 go_enter Tryz.func267,Tryz.ntmps267
 go_wp2_with fail
 refine (low_any x k hx hk _).mono ?_
 rintro e w' ⟨rfl,rfl⟩
 go_wp2_with fail
 refine (Count_any _ 1 1 _ [lowN x k] _ (Rd.made _ _ 1 1 _ rfl) (by simpa using hlow) (by omega)).mono ?_
 rintro e w' ⟨rfl,rfl⟩
 have hsum:(([lowN x k].map fun x=>ones x 64).sum)=rankN x k:=by simp [hfin]
 rw [hsum]
 go_wp2_with fail
 go_ret
 exact ⟨rfl,(Below.refl _ _).alloc (Nat.le_refl _) _⟩
end Go.Proofs.YtipaccakmndkgaaGreatDoor
namespace Go.Proofs.YtipaccakmndkgaaGreatDoor
def encW:List Bool→Nat
 | []=>0
 | b::l=>(if b then 1 else 0)+2*encW l
theorem encW_lt (l:List Bool):encW l < 2 ^ l.length:=by
 induction l with
 | nil=>simp [encW]
 | cons b l ih=>
   simp only [encW,List.length_cons,Nat.pow_succ]
   cases b <;> simp <;> omega
theorem encW_bit (l:List Bool) (k:Nat):(encW l).testBit k=l.getD k false:=by
 induction l generalizing k with
 | nil=>simp [encW]
 | cons b l ih=>
   cases k with
   | zero=>
     simp only [encW,List.getD_cons_zero,Nat.testBit_zero]
     cases b <;> simp <;> omega
   | succ k=>
     have h:((if b then 1 else 0)+2*encW l)/ 2=encW l:=by cases b <;> simp <;> omega
     simp only [encW,List.getD_cons_succ,Nat.testBit_succ,h]
     exact ih k
theorem encW_append (a b:List Bool):encW (a++b)=encW a+2 ^ a.length*encW b:=by
 induction a with
 | nil=>simp [encW]
 | cons x a ih=>
   simp only [List.cons_append,encW,ih,List.length_cons,Nat.pow_succ]
   cases x <;> simp <;> rw [Nat.mul_add,←Nat.mul_assoc,Nat.mul_comm 2 (2 ^ a.length)] <;> omega
theorem encW_ones (l:List Bool) (n:Nat):ones (encW l) n=(l.take n).count true:=by
 induction n with
 | zero=>simp [ones_zero]
 | succ n ih=>
   rw [ones_succ,ih,encW_bit,List.take_add_one,List.count_append]
   cases h:l[n]? with
   | none=>simp [List.getD_eq_getElem?_getD,h]
   | some b=>cases b <;> simp [List.getD_eq_getElem?_getD,h]
theorem encW_snoc (l:List Bool) (b:Bool):encW (l++ [b])=encW l+if b then 2 ^ l.length else 0:=by
 rw [encW_append]
 cases b <;> simp [encW]
theorem or_top (a k:Nat) (h:a < 2 ^ k):a||| 2 ^ k=a+2 ^ k:=by
 have:=Nat.two_pow_add_eq_or_of_lt h 1
 rw [Nat.mul_one] at this
 rw [Nat.or_comm,←this,Nat.add_comm]
def w0 (l:List Bool):Nat:=encW (l.take 64)
def w1 (l:List Bool):Nat:=encW (l.drop 64)
theorem w0_lt (l:List Bool):w0 l < 18446744073709551616:=by
 have h:=encW_lt (l.take 64)
 have h2:(l.take 64).length≤64:=by rw [List.length_take];omega
 have h3:=Nat.pow_le_pow_right (n:=2) (by decide) h2
 unfold w0
 omega
theorem w1_lt (l:List Bool) (hl:l.length≤128):w1 l < 18446744073709551616:=by
 have h:=encW_lt (l.drop 64)
 have h2:(l.drop 64).length≤64:=by rw [List.length_drop];omega
 have h3:=Nat.pow_le_pow_right (n:=2) (by decide) h2
 unfold w1
 omega
theorem w_ones (l:List Bool) (hl:l.length≤128):ones (w0 l) 64+ones (w1 l) 64=l.count true:=by
 unfold w0 w1
 rw [encW_ones,encW_ones,List.take_take,Nat.min_self,List.take_of_length_le (l:=l.drop 64) (by rw [List.length_drop];omega),←List.count_append,List.take_append_drop]
theorem w_rank (l:List Bool) (k:Nat) (hl:l.length≤128) (hk:k≤l.length):ones (w0 l) (min k 64)+ones (w1 l) (min (k - 64) 64)=(l.take k).count true:=by
 unfold w0 w1
 rw [encW_ones,encW_ones,List.take_take]
 rcases Nat.lt_or_ge k 64 with h | h
 · have e1:min (min k 64) 64=k:=by omega
   have e2:min (k - 64) 64=0:=by omega
   rw [e1,e2,List.take_zero,List.count_nil,Nat.add_zero]
 · have e1:min (min k 64) 64=64:=by omega
   have e2:min (k - 64) 64=k - 64:=by omega
   rw [e1,e2,←List.count_append]
   congr 1
   rw [←List.take_append_drop 64 (l.take k),List.take_take,List.drop_take]
   congr 2
   omega
theorem w_snoc_lo (l:List Bool) (b:Bool) (h:l.length < 64):w0 (l++ [b])=w0 l+(if b then 2 ^ l.length else 0)∧w1 (l++ [b])=w1 l:=by
 unfold w0 w1
 rw [List.take_of_length_le (by simp;omega),List.take_of_length_le (by omega),List.drop_of_length_le (by simp;omega),List.drop_of_length_le (by omega)]
 exact ⟨encW_snoc l b,rfl⟩
theorem w_snoc_hi (l:List Bool) (b:Bool) (h:64≤l.length):w0 (l++ [b])=w0 l∧w1 (l++ [b])=w1 l+(if b then 2 ^(l.length - 64) else 0):=by
 unfold w0 w1
 rw [List.take_append_of_le_length h,List.drop_append_of_le_length h,encW_snoc,List.length_drop]
 exact ⟨rfl,rfl⟩
theorem w0_small (l:List Bool) (h:l.length < 64):w0 l < 2 ^ l.length:=by
 unfold w0
 rw [List.take_of_length_le (by omega)]
 exact encW_lt l
theorem w1_small (l:List Bool):w1 l < 2 ^(l.length - 64):=by
 unfold w1
 have:=encW_lt (l.drop 64)
 rwa [List.length_drop] at this
end Go.Proofs.YtipaccakmndkgaaGreatDoor
namespace Go.Proofs.YtipaccakmndkgaaGreatDoor
open Go.RowKit Go
section
variable {P : Program} {ops : Array Oper} {Q : Exit → Act → World → Prop} {md : Region.Mode}
def oldB (md:Region.Mode) (ops:Array Oper) (j t:Nat):Bool:=
 (List.range ops.size).all fun k=>match ops[k]? with
    | some p=>p.dst != some t||k==j||p.after.toList.any (fun e=>Region.binds md e&&e.on==j)
    | none=>true
def laidB (md:Region.Mode) (ops:Array Oper) (n:Nat):Bool:=
 (List.range ops.size).all fun k=>match ops[k]? with
    | some p=>p.after.toList.all (fun e=> !Region.binds md e||decide (e.on < k))&&
     (match p.dst with | some d=>decide (d < n)&&(List.range ops.size).all (fun j=>j==k||((ops[j]?).bind (·.dst))!= some d)| none=>true)
    | none=>true
theorem laidB_at {n:Nat} (h:laidB md ops n=true) {k:Nat} {p:Oper} (hp:ops[k]?=some p):
 (∀e∈p.after,Region.binds md e=true→e.on < k)∧∀d,p.dst=some d→d < n∧∀j q,ops[j]?=some q→q.dst=some d→j=k:=by
 have hk:k < ops.size:=(Array.getElem?_eq_some_iff.1 hp).1
 have h1:=List.all_eq_true.1 h k (List.mem_range.2 hk)
 simp only [hp,Bool.and_eq_true] at h1
 refine ⟨fun e he hb=>?_,fun d hd=>?_⟩
 · have:=List.all_eq_true.1 h1.1 e (Array.mem_toList_iff.2 he)
   simpa [hb] using this
 · have h2:=h1.2
   simp only [hd,Bool.and_eq_true,decide_eq_true_eq] at h2
   refine ⟨h2.1,fun j q hq hqd=>?_⟩
   have hj:j < ops.size:=(Array.getElem?_eq_some_iff.1 hq).1
   have:=List.all_eq_true.1 h2.2 j (List.mem_range.2 hj)
   simp only [hq,Option.bind_some,hqd,Bool.or_eq_true,beq_iff_eq,bne_self_eq_false,Bool.false_eq_true,or_false] at this
   exact this
theorem oldB_at {j t:Nat} (h:oldB md ops j t=true) {k:Nat} {p:Oper} (hp:ops[k]?=some p) (hd:p.dst=some t):
 k=j∨∃e∈p.after,Region.binds md e=true∧e.on=j:=by
 have hk:k < ops.size:=(Array.getElem?_eq_some_iff.1 hp).1
 have h1:=List.all_eq_true.1 h k (List.mem_range.2 hk)
 simp only [hp,hd,Bool.or_eq_true,beq_iff_eq,bne_self_eq_false,Bool.false_eq_true,false_or] at h1
 rcases h1 with h1 | h1
 · exact .inl h1
 · obtain ⟨e,he,h2⟩:=List.any_eq_true.1 h1
   simp only [Bool.and_eq_true,beq_iff_eq] at h2
   exact .inr ⟨e,Array.mem_toList_iff.1 he,h2.1,h2.2⟩
structure Loose (md:Region.Mode) (ops:Array Oper) (S:World→World→Prop) (V:Nat→Value→World→Prop) (a0:Act) (W0:World) (listed:Array Bool) (a:Act) (w:World):Prop where
 world:S W0 w
 size:a.tmps.size=a0.tmps.size
 defers:a.defers=a0.defers
 old:∀t,(∀k p,ops[k]?=some p→p.dst=some t→listed.getD k false=false)→a.tmps.getD t undef=a0.tmps.getD t undef
 val:∀i o d,ops[i]?=some o→listed.getD i false=true→o.dst=some d→V i (a.tmps.getD d undef) w
 shut:∀k p,ops[k]?=some p→listed.getD k false=true→∀e∈p.after,Region.binds md e=true→listed.getD e.on false=true
theorem getD_set_same (l:Array Bool) (i:Nat) (h:i < l.size) (d:Bool):(l.setIfInBounds i true).getD i d=true:=by simp [h]
theorem getD_set_or (l:Array Bool) (i k:Nat) (h:(l.setIfInBounds i true).getD k false=true):k=i∨l.getD k false=true:=by
 by_cases hk:i=k
 · exact .inl hk.symm
 · rw [getD_set_ne false hk] at h;exact .inr h
def StepOk (P:Program) (ops:Array Oper) (Q:Exit→Act→World→Prop) (md:Region.Mode) (S:World→World→Prop) (V:Nat→Value→World→Prop) (a0:Act) (W0:World) (j:Nat) (o:Oper):Prop:=
 ∀a w,S W0 w→a.tmps.size=a0.tmps.size→a.defers=a0.defers→
    (∀t,oldB md ops j t=true→a.tmps.getD t undef=a0.tmps.getD t undef)→
    (∀e∈o.after,Region.binds md e=true→∀p d,ops[e.on]?=some p→p.dst=some d→V e.on (a.tmps.getD d undef) w)→
    ∀K:Act→World→Prop,(∀v w',S w w'→V j v w'→K (a.put o.dst v) w')→wpOp P ops Q j K a w
theorem step_on {S:World→World→Prop} {V:Nat→Value→World→Prop} {a0:Act} {W0:World} {j:Nat} {o:Oper} (ho:ops[j]?=some o) (hg:o.guard=none)
 (h:∀ev:Operand→Value,∀w,S W0 w→(∀v,ev (.const v)=v)→(∀f,ev (.func f)=.func (.func f) #[] #[])→(∀t,oldB md ops j t=true→ev (.tmp t)=a0.eval (.tmp t))→
  (∀i d,o.after.toList.any (fun e=>Region.binds md e&&e.on==i)=true→((ops[i]?).bind (·.dst))=some d→V i (ev (.tmp d)) w)→
  ∀a K,a.eval=ev→(∀v w',S w w'→V j v w'→K (a.put o.dst v) w')→Oper.upon P o a K Q ((execOp ev o).run P w)):StepOk P ops Q md S V a0 W0 j o:=by
 intro a w hS hsz hdf hold hval K hK
 unfold wpOp
 simp only [ho]
 have hw:Region.wanted o (yielded ops a.tmps)=true:=by unfold Region.wanted;rw [hg]
 rw [if_pos hw]
 refine .inl (h a.eval w hS (fun _=>rfl) (fun _=>rfl) (fun t ht=>hold t ht) (fun i d hi hd=>?_) a K rfl hK)
 obtain ⟨e,he,h2⟩:=List.any_eq_true.1 hi
 simp only [Bool.and_eq_true,beq_iff_eq] at h2
 obtain ⟨h3,rfl⟩:=h2
 cases hp:ops[e.on]? with
 | none=>rw [hp] at hd;cases hd
 | some p=>rw [hp] at hd;exact hval e (Array.mem_toList_iff.1 he) h3 p d hp hd
theorem step_guard {S:World→World→Prop} {V:Nat→Value→World→Prop} {a0:Act} {W0:World} {j g d:Nat} {b:Bool} {o:Oper} (ho:ops[j]?=some o) (hg:o.guard=some (g,b))
 (hgd:((ops[g]?).bind (·.dst))=some d) (hga:o.after.toList.any (fun e=>Region.binds md e&&e.on==g)=true)
 (hv:∀v w,S W0 w→V g v w→v=.bool b)
 (h:∀ev:Operand→Value,∀w,S W0 w→(∀v,ev (.const v)=v)→(∀f,ev (.func f)=.func (.func f) #[] #[])→(∀t,oldB md ops j t=true→ev (.tmp t)=a0.eval (.tmp t))→
  (∀i d,o.after.toList.any (fun e=>Region.binds md e&&e.on==i)=true→((ops[i]?).bind (·.dst))=some d→V i (ev (.tmp d)) w)→
  ∀a K,a.eval=ev→(∀v w',S w w'→V j v w'→K (a.put o.dst v) w')→Oper.upon P o a K Q ((execOp ev o).run P w)):StepOk P ops Q md S V a0 W0 j o:=by
 intro a w hS hsz hdf hold hval K hK
 have hval':∀i d,o.after.toList.any (fun e=>Region.binds md e&&e.on==i)=true→((ops[i]?).bind (·.dst))=some d→V i (a.eval (.tmp d)) w:=by
  intro i d hi hd
  obtain ⟨e,he,h2⟩:=List.any_eq_true.1 hi
  simp only [Bool.and_eq_true,beq_iff_eq] at h2
  obtain ⟨h3,rfl⟩:=h2
  cases hp:ops[e.on]? with
  | none=>rw [hp] at hd;cases hd
  | some p=>rw [hp] at hd;exact hval e (Array.mem_toList_iff.1 he) h3 p d hp hd
 have hb:=hv _ _ hS (hval' g d hga hgd)
 unfold wpOp
 simp only [ho]
 have hw:Region.wanted o (yielded ops a.tmps)=true:=by
  unfold Region.wanted
  rw [hg]
  have:yielded ops a.tmps g=some b:=by
   unfold yielded
   rw [hgd]
   change a.tmps.getD d undef=.bool b at hb
   rw [Array.getD_eq_getD_getElem?] at hb
   rw [Option.bind_some]
   cases ht:a.tmps[d]? with
   | none=>rw [ht] at hb;cases hb
   | some u=>rw [ht] at hb;simp only [Option.getD_some] at hb;rw [hb]
  simp only [this,beq_self_eq_true]
 rw [if_pos hw]
 exact .inl (h a.eval w hS (fun _=>rfl) (fun _=>rfl) (fun t ht=>hold t ht) hval' a K rfl hK)
theorem steps_nil {T:Nat→Oper→Prop} {k:Nat}:∀j p,([]:List Oper)[j]?=some p→T (k+j) p:=by intro j p h;simp at h
theorem steps_cons {T:Nat→Oper→Prop} {k:Nat} {o:Oper} {l:List Oper} (h:T k o) (hl:∀j p,l[j]?=some p→T (k+1+j) p):∀j p,(o::l)[j]?=some p→T (k+j) p:=by
 intro j p hj
 cases j with
 | zero=>simp at hj;subst hj;exact h
 | succ j=>simp at hj;have:=hl j p hj;rwa [show k+1+j=k+(j+1) by omega] at this
theorem steps_of {T:Nat→Oper→Prop} {l:List Oper} (h:∀j p,l[j]?=some p→T (0+j) p):∀j p,l.toArray[j]?=some p→T j p:=by
 intro j p hj
 have:=h j p (by simpa using hj)
 rwa [Nat.zero_add] at this
def is (c:Value):Value→World→Prop:=fun v _=>v=c
def row (sz n:Nat) (xs:List Value):Value→World→Prop:=fun v w=>∃A c,v=.slice A n c∧Rd w w.heap.size sz A n xs∧n≤c∧c≤maxLen
def Grow (w w':World):Prop:=Below w.heap.size w w'
theorem Grow.trans {w w1 w2:World} (h:Grow w w1) (k:Grow w1 w2):Grow w w2:=Below.trans h (Below.mono k (Below.size h))
def Stb (p:Value→World→Prop):Prop:=∀v w w',p v w→Grow w w'→p v w'
theorem stb_is (c:Value):Stb (is c):=fun _ _ _ h _=>h
theorem stb_row (sz n:Nat) (xs:List Value):Stb (row sz n xs):=fun _ _ _ ⟨A,c,h1,h2,h3⟩ hb=>⟨A,c,h1,(h2.below hb).mono (Below.size hb),h3⟩
def Vs (l:List (Value→World→Prop)) (i:Nat):Value→World→Prop:=l.getD i fun _ _=>True
theorem stb_all {l:List (Value→World→Prop)} (h:∀p∈l,Stb p):∀i v w w',Vs l i v w→Grow w w'→Vs l i v w':=by
 intro i v w w' h1 h2
 unfold Vs at*
 rw [List.getD_eq_getElem?_getD] at*
 cases hp:l[i]? with
 | none=>exact trivial
 | some p=>rw [hp] at h1;exact h p (List.mem_of_getElem? hp) _ _ _ h1 h2
theorem wpAny_loose (S:World→World→Prop) (V:Nat→Value→World→Prop) (a0:Act) (W0:World)
 (hlaid:laidB md ops a0.tmps.size=true) (hrefl:S W0 W0) (htrans:∀w w',S W0 w→S w w'→S W0 w') (hstab:∀i v w w',V i v w→S w w'→V i v w')
 (hstep:∀j o,ops[j]?=some o→StepOk P ops Q md S V a0 W0 j o)
 (hend:∀a w,S W0 w→a.tmps.size=a0.tmps.size→a.defers=a0.defers→
  (∀t,(∀(k:Nat) (p:Oper),ops[k]?=some p→p.dst≠some t)→a.tmps.getD t undef=a0.tmps.getD t undef)→
  (∀i o d,ops[i]?=some o→o.dst=some d→V i (a.tmps.getD d undef) w)→Q .normal a w):
 wpAny P md ops Q ops.size (Array.replicate ops.size false) a0 W0:=by
 have done:∀listed a w,listed.size=ops.size→(∀i,i < ops.size→listed.getD i false=true)→Loose md ops S V a0 W0 listed a w→Q .normal a w:=by
  intro listed a w hl hall h
  refine hend a w h.world h.size h.defers (fun t ht=>h.old t fun k p hp hd=>absurd hd (ht k p hp)) fun i o d ho hd=>h.val i o d ho (hall i (Array.getElem?_eq_some_iff.1 ho).1) hd
 have none_ready:∀listed:Array Bool,listed.size=ops.size→Region.ready md ops listed= []→∀i,i < ops.size→listed.getD i false=true:=by
  intro listed hl hr i
  induction i using Nat.strongRecOn with
  | _ i ih=>
    intro hi
    cases hc:listed.getD i false with
    | true=>rfl
    | false=>
      exfalso
      have hm:i∈Region.ready md ops listed:=by
        refine mem_ready.2 ⟨?_,ops[i],Array.getElem?_eq_getElem hi,fun e he hb=>?_⟩
        · have hi':i < listed.size:=by omega
          simp [hi'] at hc⊢
          exact hc
        · have:=(laidB_at hlaid (Array.getElem?_eq_getElem hi)).1 e he hb
          exact ih e.on this (by omega)
      rw [hr] at hm
      cases hm
 have main:∀fuel listed a w,listed.size=ops.size→listed.toList.count false≤fuel→Loose md ops S V a0 W0 listed a w→wpAny P md ops Q fuel listed a w:=by
  intro fuel
  induction fuel with
  | zero=>
    intro listed a w hl hc h
    have hall:∀i,i < ops.size→listed.getD i false=true:=by
        intro i hi
        have hi':i < listed.size:=by omega
        cases hv:listed.getD i false with
        | true=>rfl
        | false=>
          exfalso
          have:false∈listed.toList:=by
           simp [hi'] at hv
           exact hv ▸(by simp)
          have:=List.count_pos_iff.2 this
          omega
    refine ⟨?_,done listed a w hl hall h⟩
    cases hr:Region.ready md ops listed with
    | nil=>rfl
    | cons i l=>
      exfalso
      have hi:i∈Region.ready md ops listed:=by rw [hr];exact List.mem_cons_self ..
      obtain ⟨h0,o,ho,_⟩:=mem_ready.1 hi
      have hlt:i < ops.size:=(Array.getElem?_eq_some_iff.1 ho).1
      have h1:=hall i hlt
      have hi':i < listed.size:=by omega
      simp [hi'] at h0 h1
      rw [h0] at h1
      cases h1
  | succ fuel ih=>
    intro listed a w hl hc h
    refine ⟨fun hr=>done listed a w hl (none_ready listed hl hr) h,fun j hj=>?_⟩
    obtain ⟨h0,o,ho,haft⟩:=mem_ready.1 hj
    have hlt:j < ops.size:=(Array.getElem?_eq_some_iff.1 ho).1
    have hjl:j < listed.size:=by omega
    have h0':listed.getD j false=false:=by simp [hjl] at h0⊢;exact h0
    refine hstep j o ho a w h.world h.size h.defers (fun t ht=>h.old t fun k p hp hd=>?_) (fun e he hb p d hp hd=>h.val e.on p d hp (haft e he hb) hd) _ fun v w' hS hV=>?_
    · rcases oldB_at ht hp hd with rfl |⟨e,he,hb,heq⟩
      · exact h0'
      · cases hk:listed.getD k false with
        | false=>rfl
        | true=>
          have:=h.shut k p hp hk e he hb
          rw [heq,h0'] at this
          cases this
    · refine ih _ _ _ (by simpa using hl) ?_ ?_
      · have hv:listed.toList[j]'(by simpa using hjl)=false:=by simp [hjl] at h0'⊢;exact h0'
        rw [Array.toList_setIfInBounds,List.count_set (by simpa using hjl),hv]
        simp
        have hm:false∈listed.toList:=hv ▸ List.getElem_mem _
        have:=List.count_pos_iff.2 hm
        rw [←Array.count_toList]
        omega
      · have hsz:(a.put o.dst v).tmps.size=a0.tmps.size:=by
          rw [←h.size]
          cases o.dst with
          | none=>rfl
          | some d=>simp [Act.put]
        refine ⟨htrans w w' h.world hS,hsz,?_,fun t ht=>?_,fun i p d hp hi hd=>?_,fun k p hp hk e he hb=>?_⟩
        · rw [←h.defers]
          cases o.dst <;> rfl
        · have hne:o.dst≠some t:=fun hd=>by
           have:=ht j o ho hd
           rw [getD_set_same _ _ hjl] at this
           cases this
          have hold:=h.old t fun k p hp hd=>by
           have:=ht k p hp hd
           cases hk:listed.getD k false with
           | false=>rfl
           | true=>
             by_cases hjk:j=k
             · subst hjk;rw [h0'] at hk;cases hk
             · rw [getD_set_ne false hjk,hk] at this;cases this
          rw [←hold]
          cases hod:o.dst with
          | none=>rfl
          | some d=>
            have hdt:d≠t:=fun h=>hne (by rw [hod,h])
            simp [Act.put,Array.getD_eq_getD_getElem?,hdt]
        · rcases getD_set_or _ _ _ hi with rfl | hi1
          · rw [ho] at hp
            injection hp with hp
            subst hp
            have hdl:=((laidB_at hlaid ho).2 d hd).1
            have:(a.put o.dst v).tmps.getD d undef=v:=by
              rw [hd]
              have:d < a.tmps.size:=by rw [h.size];exact hdl
              simp [Act.put,Array.getD_eq_getD_getElem?,this]
            rw [this]
            exact hV
          · by_cases hij:i=j
            · subst hij;rw [h0'] at hi1;cases hi1
            have:(a.put o.dst v).tmps.getD d undef=a.tmps.getD d undef:=by
              cases hod:o.dst with
              | none=>rfl
              | some d'=>
                have hdt:d'≠d:=fun h=>hij (((laidB_at hlaid ho).2 d' hod).2 i p hp (h ▸ hd))
                simp [Act.put,Array.getD_eq_getD_getElem?,hdt]
            rw [this]
            exact hstab _ _ _ _ (h.val i p d hp hi1 hd) hS
        · rcases getD_set_or _ _ _ hk with rfl | hk
          · rw [ho] at hp
            injection hp with hp
            subst hp
            have h1:=haft e he hb
            by_cases hje:k=e.on
            · rw [←hje];exact getD_set_same _ _ hjl _
            · rw [getD_set_ne false hje];exact h1
          · have h1:=h.shut k p hp hk e he hb
            by_cases hje:j=e.on
            · rw [←hje];exact getD_set_same _ _ hjl _
            · rw [getD_set_ne false hje];exact h1
 refine main _ _ _ _ (by simp) (by simp) ⟨hrefl,rfl,rfl,fun _ _=>rfl,fun i o d ho hi hd=>?_,fun k p hp hk=>?_⟩
 · have hlt:i < ops.size:=(Array.getElem?_eq_some_iff.1 ho).1
   simp [hlt] at hi
 · have hlt:k < ops.size:=(Array.getElem?_eq_some_iff.1 hp).1
   simp [hlt] at hk
end
end Go.Proofs.YtipaccakmndkgaaGreatDoor
namespace Go.Proofs.YtipaccakmndkgaaGreatDoor
theorem getGo_pre (f:Nat):∀n r pos,n < 128 ^ f→n < 144115188075855872→getGo (preB f n++r) true 0 pos=getGo r (n==0) n (pos+(preB f n).length):=by
 induction f with
 | zero=>intro n r pos h _;have:n=0:=by simpa using h
         subst this;simp [preB]
 | succ f ih=>
   intro n r pos h h64
   by_cases h0:n=0
   · subst h0;simp [preB_zero]
   · rw [preB,if_neg h0,List.append_assoc,ih (n / 128) _ pos (by rw [Nat.div_lt_iff_lt_mul (by omega)];rw [Nat.pow_succ] at h;exact h) (by omega)]
     rw [List.singleton_append,getGo_cons]
     have hb:(UInt8.ofNat (n % 128+128)).toNat=n % 128+128:=by simp [UInt8.toNat_ofNat'];omega
     rw [hb,if_neg,if_neg (by omega)]
     · have e1:n / 128*128+(n % 128+128)% 128=n:=by omega
       rw [e1,List.length_append,List.length_singleton,Nat.add_assoc]
       have:(n==0)=false:=by simp [h0]
       rw [this]
     · by_cases h1:n / 128=0
       · simp [h1];omega
       · simp [h1];omega
theorem getGo_enc (n:Nat) (h:n < 18446744073709551616) (r:List UInt8) (pos:Nat):getGo (encB n++r) true 0 pos=some (n,pos+(encB n).length):=by
 unfold encB
 rw [List.append_assoc,getGo_pre 10 (n / 128) _ pos (by omega) (by omega),List.singleton_append,getGo_cons]
 have hb:(UInt8.ofNat (n % 128)).toNat=n % 128:=by simp [UInt8.toNat_ofNat'];omega
 rw [hb,if_neg,if_pos (by omega),List.length_append,List.length_singleton]
 · congr 2
   · omega
 · simp;omega
theorem encB_pos (n:Nat):0 < (encB n).length:=by simp [encB]
theorem getNB_at (a r:List UInt8) (n:Nat) (h:n < 18446744073709551616):getNB (a++(encB n++r)) (a.length:Int)=(n,((a.length+(encB n).length:Nat):Int),0):=by
 rw [getNB,if_neg (by simp;omega)]
 simp only [Int.toNat_natCast,List.drop_left]
 rw [getGo_enc n h]
theorem fixB_len (n:Nat):(fixB n).length=4:=by simp [fixB,fixN]
theorem fixN_get (k n j:Nat) (h:j < k):(fixN k n)[j]?=some (UInt8.ofNat (n / 256 ^ j % 256)):=by
 induction k with
 | zero=>omega
 | succ k ih=>
   have hl:∀k,(fixN k n).length=k:=fun k=>by induction k with
    | zero=>rfl
    | succ k ih=>simp [fixN,ih]
   rw [fixN]
   by_cases hj:j=k
   · subst hj
     rw [List.getElem?_append_right (by rw [hl];omega),hl]
     simp
   · rw [List.getElem?_append_left (by rw [hl];omega),ih (by omega)]
theorem ofB_fix (a b:List UInt8) (n:Nat) (h:n < 4294967296):ofB (a++(fixB n++b)) (a.length:Int)=(n,0):=by
 have h4:=fixB_len n
 rw [ofB,if_neg (by simp;omega),if_neg (by simp;omega)]
 have hg:∀j,j < 4→(a++(fixB n++b))[a.length+j]?=some (UInt8.ofNat (n / 256 ^ j % 256)):=fun j hj=>by
  rw [List.getElem?_append_right (by omega),Nat.add_sub_cancel_left,List.getElem?_append_left (by omega)]
  exact fixN_get 4 n j hj
 simp only [ofN,Int.toNat_natCast]
 rw [hg 0 (by omega),hg 1 (by omega),hg 2 (by omega),hg 3 (by omega)]
 have e:∀m:Nat,(UInt8.ofNat (m % 256)).toNat=m % 256:=fun m=>by simp [UInt8.toNat_ofNat']
 simp only [Option.getD_some,e]
 congr 1
 simp only [Nat.reducePow,Nat.div_one,Nat.mul_one]
 omega
end Go.Proofs.YtipaccakmndkgaaGreatDoor
