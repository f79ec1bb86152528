/- What a law's arguments are, as the walks want them: integers, and slices that read as lists of bytes, of ints, of uint64s. No conditions. The walks of math/bits.OnesCount64 and of bits.low, Count, Rank. No conditions. Bits in a word: the plain laws behind block. No program in sight. No conditions. -/
import Derived.Test.YtipaccakmndkgaaGreatPwa0
import Derived.ProofKit
import Derived.OpenShut
import Derived.ShutString
import Derived.ChangeOld
import Derived.Carry
import Derived.Laws.BitsLemmas
import Derived.Laws.Bits64
namespace Go.Proofs.YtipaccakmndkgaaGreat
open Go.ChangeShapes Go.WideShapes Go.ChangeAt Go.RowKit
theorem laidOut:laidOutB Tryz.prog=true:=by kernel_rfl
theorem own:ownKnob Tryz.prog.godebug=none:=by kernel_rfl
theorem rd_ints {k:IntKind} {w:World} {x:Addr} {len cap:Nat} {zs:List Int} (hl:len≤cap) (hz:zs.length=cap) (hb:0 < len→x.block < w.heap.size)
 (hc:∀i,i < zs.length→w.cell? (x.add i)=some (.int k (zs.getD i 0))):Rd w w.heap.size 1 (some x) len ((zs.take len).map (Value.int k)):=by
 refine ⟨by simp;omega,fun hn=>?_⟩
 have hc0:=hc 0 (by omega)
 obtain ⟨b,off,spot⟩:=x
 have hspot:spot=none:=by simpa [Addr.add] using World.cell?_spot hc0
 subst hspot
 refine ⟨b,off,rfl,hb hn,fun j u hu=>?_⟩
 simp only [List.getElem?_map,List.getElem?_take] at hu
 split at hu
 · rename_i hj
   have:=hc j (by omega)
   rw [add_lit] at this
   rw [this]
   have hjz:j < zs.length:=by omega
   rw [List.getElem?_eq_getElem hjz] at hu
   simp only [Option.map_some,Option.some.injEq] at hu
   rw [←hu,List.getD_eq_getElem?_getD,List.getElem?_eq_getElem hjz]
   rfl
 · simp at hu
theorem arg_ints {H:Type} {enc:TypeId×Value→H} {t e:TypeId} {k:IntKind} {w:World} {a:Option Addr} {len cap:Nat} {d:DataW H} {p:List MemPlace}
 (ht:Tryz.prog.underlying t=some (.slice e)) (he:Tryz.prog.underlying e=some (.int k)) (hC:Tryz.prog.cellsOf e=1)
 (h:DataW.Trod enc Tryz.prog w 0 (fun _=>true) true t (.slice a len cap) d p):
 ∃zs:List Int,Rd w w.heap.size 1 a len (zs.map (Value.int k))∧(∀n∈zs,(Lit.int k n).wf=true)∧len≤cap∧cap≤maxLen:=by
 obtain ⟨fuel,hf⟩:=h
 rcases open_ints ht he hC hf with ⟨hcs,_⟩|⟨x,l,c,zs,hcs,_,hl,hm,hz,hx,hcell,hwz⟩
 · simp [Value.cells] at hcs
   obtain ⟨rfl,rfl,rfl⟩:=hcs
   exact ⟨[],Rd.nil _ _ _ _,by simp,Nat.le_refl _,Nat.zero_le _⟩
 · simp [Value.cells] at hcs
   obtain ⟨rfl,rfl,rfl⟩:=hcs
   have hzc:zs.length=cap:=by simpa using hz
   refine ⟨zs.take len,rd_ints hl hzc (fun hn=>?_) hcell,fun n hn=>hwz n (List.mem_of_mem_take hn),hl,hm⟩
   have:=World.block_lt_of_cell? w (x.add 0) (hcell 0 (by omega))
   simpa [Addr.add] using this
end Go.Proofs.YtipaccakmndkgaaGreat
namespace Go.Proofs.YtipaccakmndkgaaGreat
open Go.RowKit
set_option linter.unusedVariables false
set_option linter.unusedSimpArgs false
theorem and64 (a b:Nat) (ha:a < 18446744073709551616) (hb:b < 18446744073709551616):bits .and .u64 (a:Int) (b:Int)=((a&&& b:Nat):Int):=
 (bits_nat .u64 64 (by decide) (fun n h0 h1=>by rw [IntKind.wrap_u64];omega) a b (by omega) (by omega)).1
theorem shr_and (x k m d:Nat) (hx:x < 18446744073709551616) (hm:m < 18446744073709551616) (hd:2 ^ k=d):bits .and .u64 ((x:Int)/(d:Int)) (m:Int)=((x >>> k&&& m:Nat):Int):=by
 have h1:((x:Int)/(d:Int))=((x >>> k:Nat):Int):=by
  rw [Nat.shiftRight_eq_div_pow,hd]
  push_cast
  rfl
 have h2:x >>> k < 18446744073709551616:=by
  rw [Nat.shiftRight_eq_div_pow]
  exact Nat.lt_of_le_of_lt (Nat.div_le_self _ _) hx
 rw [h1,and64 _ _ h2 hm]
set_option maxRecDepth 100000 in
set_option maxHeartbeats 1000000 in
theorem OnesCount_any (x:Nat) (hx:x < 18446744073709551616) (w:World):
 Calls Tryz.prog 170 #[.int .u64 (x:Int)] w fun e w'=>e=.returned (.int .i64 ((ones x 64:Nat):Int))∧w=w':=by
 obtain ⟨p1,hp1⟩:∃p,p=x >>> 1&&& 6148914691236517205:=⟨_,rfl⟩
 obtain ⟨p2,hp2⟩:∃p,p=x&&& 6148914691236517205:=⟨_,rfl⟩
 have b1:p1≤6148914691236517205:=by rw [hp1];exact Nat.and_le_right
 have b2:p2≤6148914691236517205:=by rw [hp2];exact Nat.and_le_right
 obtain ⟨y1,hy1⟩:∃y,y=p1+p2:=⟨_,rfl⟩
 obtain ⟨q1,hq1⟩:∃p,p=y1 >>> 2&&& 3689348814741910323:=⟨_,rfl⟩
 obtain ⟨q2,hq2⟩:∃p,p=y1&&& 3689348814741910323:=⟨_,rfl⟩
 have b3:q1≤3689348814741910323:=by rw [hq1];exact Nat.and_le_right
 have b4:q2≤3689348814741910323:=by rw [hq2];exact Nat.and_le_right
 obtain ⟨y2,hy2⟩:∃y,y=q1+q2:=⟨_,rfl⟩
 obtain ⟨r1,hr1⟩:∃r,r=y2 >>> 4+y2:=⟨_,rfl⟩
 have hr1':r1=y2 / 16+y2:=by rw [hr1,Nat.shiftRight_eq_div_pow]
 obtain ⟨y3,hy3⟩:∃y,y=r1&&& 1085102592571150095:=⟨_,rfl⟩
 have b5:y3≤1085102592571150095:=by rw [hy3];exact Nat.and_le_right
 obtain ⟨y4,hy4⟩:∃y,y=y3+y3 / 256:=⟨_,rfl⟩
 obtain ⟨y5,hy5⟩:∃y,y=y4+y4 / 65536:=⟨_,rfl⟩
 obtain ⟨y6,hy6⟩:∃y,y=y5+y5 / 4294967296:=⟨_,rfl⟩
 have hs:y3=swar3 x:=by rw [hy3,hr1,hy2,hq1,hq2,hy1,hp1,hp2];rfl
 obtain ⟨hfin,hlt⟩:=swar x hx y4 y5 y6 (by rw [←hs];exact hy4) hy5 hy6
 have k1:bits .and .u64 ((x:Int)/ 2) 6148914691236517205=(p1:Int):=by rw [hp1];exact shr_and x 1 6148914691236517205 2 hx (by omega) (by decide)
 have k2:bits .and .u64 (x:Int) 6148914691236517205=(p2:Int):=by rw [hp2];exact and64 x 6148914691236517205 hx (by omega)
 have k3:IntKind.u64.wrap ((p1:Int)+(p2:Int))=(y1:Int):=by rw [IntKind.wrap_u64];omega
 have k4:bits .and .u64 ((y1:Int)/ 4) 3689348814741910323=(q1:Int):=by rw [hq1];exact shr_and y1 2 3689348814741910323 4 (by omega) (by omega) (by decide)
 have k5:bits .and .u64 (y1:Int) 3689348814741910323=(q2:Int):=by rw [hq2];exact and64 y1 3689348814741910323 (by omega) (by omega)
 have k6:IntKind.u64.wrap ((q1:Int)+(q2:Int))=(y2:Int):=by rw [IntKind.wrap_u64];omega
 have k7:IntKind.u64.wrap ((y2:Int)/ 16+(y2:Int))=(r1:Int):=by rw [IntKind.wrap_u64];omega
 have k8:bits .and .u64 (r1:Int) 1085102592571150095=(y3:Int):=by rw [hy3];exact and64 r1 1085102592571150095 (by omega) (by omega)
 have k9:IntKind.u64.wrap ((y3:Int)+(y3:Int)/ 256)=(y4:Int):=by rw [IntKind.wrap_u64];omega
 have k10:IntKind.u64.wrap ((y4:Int)+(y4:Int)/ 65536)=(y5:Int):=by rw [IntKind.wrap_u64];omega
 have k11:IntKind.u64.wrap ((y5:Int)+(y5:Int)/ 4294967296)=(y6:Int):=by rw [IntKind.wrap_u64];omega
 have hy6b:y6 < 9223372036854775808:=by omega
 have k12:bits .and .i64 (y6:Int) 127=((ones x 64:Nat):Int):=by
  have:=bits_mask .i64 63 (by decide) (fun n h0 h1=>by rw [IntKind.wrap_i64];omega) 7 (by decide) (y6:Int) (by omega) (by omega)
  rw [show ((2:Int)^ 7 - 1)=127 by decide,show ((2:Int)^ 7)=128 by decide] at this
  rw [this,←hfin]
  omega
 clear hp1 hp2 hy1 hq1 hq2 hy2 hr1 hr1' hy3 hy4 hy5 hy6 hs hfin b1 b2 b3 b4 b5
 go_enter Tryz.func170,Tryz.ntmps170
 go_wp2
 go_ret
 exact ⟨ret_i64 (by first | exact k12 | simp [k12]),rfl⟩
theorem ones_low (x m n:Nat) (h:m≤n):ones (x % 2 ^ m) n=ones x m:=by
 obtain ⟨d,rfl⟩:∃d,n=m+d:=⟨n - m,by omega⟩
 rw [ones_add,ones_mod]
 have:(x % 2 ^ m)>>> m=0:=by
  rw [Nat.shiftRight_eq_div_pow]
  exact Nat.div_eq_of_lt (Nat.mod_lt _ (Nat.two_pow_pos m))
 rw [this]
 have z:∀d,ones 0 d=0:=fun d=>by
  unfold ones
  simp
 rw [z]
 rfl
def lowN (x:Nat) (k:Int):Nat:=x % 2 ^(min k.toNat 64)
def uvn (n:Nat):Value:=.int .u64 (n:Int)
set_option maxRecDepth 100000 in
set_option maxHeartbeats 1000000 in
theorem low_any (x:Nat) (k:Int) (hx:x < 18446744073709551616) (hk:-9223372036854775808≤k∧k≤9223372036854775807) (w:World):
 Calls Tryz.prog 159 #[.int .u64 (x:Int),.int .i64 k] w fun e w'=>e=.returned (.int .u64 ((lowN x k:Nat):Int))∧w=w':=by
 unfold lowN
 by_cases h0:k≤0
 · have e0:x % 2 ^(min k.toNat 64)=0:=by
    rw [show k.toNat=0 by omega]
    simp [Nat.mod_one]
   rw [e0]
   go_enter Tryz.func159,Tryz.ntmps159
   go_wp2
   go_ret
   exact ⟨rfl,rfl⟩
 · by_cases h1:k≥64
   · have e1:x % 2 ^(min k.toNat 64)=x:=by
        rw [show min k.toNat 64=64 by omega]
        exact Nat.mod_eq_of_lt (by omega)
     rw [e1]
     have h2:¬(k≤0):=h0
     go_enter Tryz.func159,Tryz.ntmps159
     go_wp2
     go_ret
     exact ⟨rfl,rfl⟩
   · obtain ⟨m,rfl⟩:∃m:Nat,k=(m:Int):=⟨k.toNat,by omega⟩
     have hm:m < 64:=by omega
     have d0:decide ((m:Int)≤0)=false:=by simp;omega
     have d1:decide ((m:Int)≥64)=false:=by simp;omega
     have e2:min (m:Int).toNat 64=m:=by omega
     rw [e2]
     have hp:2 ^ m < 18446744073709551616:=by
        have:=Nat.pow_lt_pow_right (a:=2) (by decide) hm
        omega
     have hpi:((2:Int)^ m)=((2 ^ m:Nat):Int):=by push_cast;rfl
     have hpos:=Nat.two_pow_pos m
     have h1':IntKind.u64.wrap ((2:Int)^ m)=(2:Int)^ m:=by rw [hpi,IntKind.wrap_u64];omega
     have h2':IntKind.u64.wrap ((2:Int)^ m - 1)=(2:Int)^ m - 1:=by rw [hpi,IntKind.wrap_u64];omega
     have h3:bits .and .u64 (x:Int) ((2:Int)^ m - 1)=(x:Int)% 2 ^ m:=bits_mask .u64 64 (by decide) (fun n h0 h1=>by rw [IntKind.wrap_u64];omega) m (by omega) (x:Int) (by omega) (by omega)
     clear hpi
     go_enter Tryz.func159,Tryz.ntmps159
     go_wp2
     go_ret
     exact ⟨by first | rfl | simp,rfl⟩
set_option maxRecDepth 100000 in
set_option maxHeartbeats 1000000 in
theorem Count_any (A:Option Addr) (m c B:Nat) (l:List Nat) (w:World) (hr:Rd w B 1 A m (l.map uvn)) (hl:∀n∈l,n < 18446744073709551616) (hm:m≤1048576):
 Calls Tryz.prog 158 #[.slice A m c] w fun e w'=>e=.returned (.int .i64 (((l.map fun x=>ones x 64).sum:Nat):Int))∧w=w':=by
 have hll:l.length=m:=by simpa using hr.1
 have Hr:=Lib.hid hr
 have Hl:=Lib.hid hl
 have Hll:=Lib.hid hll
 have hb:∀k,((l.take k).map fun x=>ones x 64).sum≤k*64:=fun k=>by
  induction k with
  | zero=>simp
  | succ k ih=>
    by_cases hk:k < l.length
    · rw [List.take_succ_eq_append_getElem hk,List.map_append,List.sum_append]
      have:=ones_le l[k] 64
      simp only [List.map_cons,List.map_nil,List.sum_cons,List.sum_nil]
      omega
    · rw [List.take_of_length_le (by omega)]
      rw [List.take_of_length_le (by omega)] at ih
      omega
 have Hb:=Lib.hid hb
 clear hr hl hll hb
 go_enter Tryz.func158,Tryz.ntmps158
 go_wp2
 go_loopw [3,8] (fun v i wr=>∃k:Nat,k≤m∧i=.int .i64 k∧v=.int .i64 ((((l.take k).map fun x=>ones x 64).sum:Nat):Int)∧w=wr) (fun _ i _=>m -(intOf i).toNat)
 case atStart=>exact ⟨0,Nat.zero_le _,rfl,by simp,rfl⟩
 case round=>
  obtain ⟨k,hk,rfl,rfl,rfl⟩:=hrel
  by_cases hlt:k < m
  · have hkl:k < l.length:=by rw [Hll.out];exact hlt
    obtain ⟨x,hx⟩:∃x,l[k]?=some x:=⟨l[k],List.getElem?_eq_getElem hkl⟩
    obtain ⟨b,off,u,rfl,hbl,hu,hc⟩:=Hr.out.get hlt
    rw [List.getElem?_map,hx] at hu
    simp at hu
    subst hu
    unfold uvn at hc
    have hx64:=Hl.out x (List.mem_of_getElem? hx)
    have hnx:((l.take (k+1)).map fun x=>ones x 64).sum=((l.take k).map fun x=>ones x 64).sum+ones x 64:=by
        rw [List.take_add_one,hx]
        simp
    have hbd:=Hb.out k
    have h64:=ones_le x 64
    generalize ((l.take k).map fun x=>ones x 64).sum=q at*
    have Hnx:=Lib.hid hnx
    clear hnx hx
    go_wp2_with fail
    refine (OnesCount_any x hx64 _).mono ?_
    rintro e w' ⟨rfl,rfl⟩
    go_wp2
    go_roundw
    case rel=>exact ⟨k+1,by omega,by go_num,by rw [Hnx.out];go_num,trivial⟩
    case measure=>simp [intOf];omega
  · have hge:m≤k:=by omega
    have htk:l.take k=l:=List.take_of_length_le (by have:=Hll.out;omega)
    rw [htk]
    clear htk
    go_wp2
    go_ret
    exact ⟨rfl,rfl⟩
def rankN (x:Nat) (k:Int):Nat:=ones x (min k.toNat 64)
set_option maxRecDepth 100000 in
set_option maxHeartbeats 1000000 in
theorem BitsRank_any (x:Nat) (k:Int) (hx:x < 18446744073709551616) (hk:-9223372036854775808≤k∧k≤9223372036854775807) (w:World):
 Calls Tryz.prog 146 #[.int .u64 (x:Int),.int .i64 k] w fun e w'=>e=.returned (.int .i64 ((rankN x k:Nat):Int))∧Below w.heap.size w w':=by
 have hlow:lowN x k < 18446744073709551616:=by
  unfold lowN
  exact Nat.lt_of_le_of_lt (Nat.mod_le _ _) hx
 have hfin:ones (lowN x k) 64=rankN x k:=ones_low x _ 64 (Nat.min_le_right _ _)
 go_enter Tryz.func146,Tryz.ntmps146
 go_wp2_with fail
 refine (low_any x k hx hk _).mono ?_
 rintro e w' ⟨rfl,rfl⟩
 go_wp2_with fail
 refine (Count_any _ 1 1 _ [lowN x k] _ (Rd.made _ _ 1 1 _ rfl) (by simpa using hlow) (by omega)).mono ?_
 rintro e w' ⟨rfl,rfl⟩
 have hsum:(([lowN x k].map fun x=>ones x 64).sum)=rankN x k:=by simp [hfin]
 rw [hsum]
 go_wp2_with fail
 go_ret
 exact ⟨rfl,(Below.refl _ _).alloc (Nat.le_refl _) _⟩
end Go.Proofs.YtipaccakmndkgaaGreat
namespace Go.Proofs.YtipaccakmndkgaaGreat
def encW:List Bool→Nat
 | []=>0
 | b::l=>(if b then 1 else 0)+2*encW l
theorem encW_lt (l:List Bool):encW l < 2 ^ l.length:=by
 induction l with
 | nil=>simp [encW]
 | cons b l ih=>
   simp only [encW,List.length_cons,Nat.pow_succ]
   cases b <;> simp <;> omega
theorem encW_bit (l:List Bool) (k:Nat):(encW l).testBit k=l.getD k false:=by
 induction l generalizing k with
 | nil=>simp [encW]
 | cons b l ih=>
   cases k with
   | zero=>
     simp only [encW,List.getD_cons_zero,Nat.testBit_zero]
     cases b <;> simp <;> omega
   | succ k=>
     have h:((if b then 1 else 0)+2*encW l)/ 2=encW l:=by cases b <;> simp <;> omega
     simp only [encW,List.getD_cons_succ,Nat.testBit_succ,h]
     exact ih k
theorem encW_append (a b:List Bool):encW (a++b)=encW a+2 ^ a.length*encW b:=by
 induction a with
 | nil=>simp [encW]
 | cons x a ih=>
   simp only [List.cons_append,encW,ih,List.length_cons,Nat.pow_succ]
   cases x <;> simp <;> rw [Nat.mul_add,←Nat.mul_assoc,Nat.mul_comm 2 (2 ^ a.length)] <;> omega
theorem encW_ones (l:List Bool) (n:Nat):ones (encW l) n=(l.take n).count true:=by
 induction n with
 | zero=>simp [ones_zero]
 | succ n ih=>
   rw [ones_succ,ih,encW_bit,List.take_add_one,List.count_append]
   cases h:l[n]? with
   | none=>simp [List.getD_eq_getElem?_getD,h]
   | some b=>cases b <;> simp [List.getD_eq_getElem?_getD,h]
theorem encW_snoc (l:List Bool) (b:Bool):encW (l++ [b])=encW l+if b then 2 ^ l.length else 0:=by
 rw [encW_append]
 cases b <;> simp [encW]
theorem or_top (a k:Nat) (h:a < 2 ^ k):a||| 2 ^ k=a+2 ^ k:=by
 have:=Nat.two_pow_add_eq_or_of_lt h 1
 rw [Nat.mul_one] at this
 rw [Nat.or_comm,←this,Nat.add_comm]
def w0 (l:List Bool):Nat:=encW (l.take 64)
def w1 (l:List Bool):Nat:=encW (l.drop 64)
theorem w0_lt (l:List Bool):w0 l < 18446744073709551616:=by
 have h:=encW_lt (l.take 64)
 have h2:(l.take 64).length≤64:=by rw [List.length_take];omega
 have h3:=Nat.pow_le_pow_right (n:=2) (by decide) h2
 unfold w0
 omega
theorem w1_lt (l:List Bool) (hl:l.length≤128):w1 l < 18446744073709551616:=by
 have h:=encW_lt (l.drop 64)
 have h2:(l.drop 64).length≤64:=by rw [List.length_drop];omega
 have h3:=Nat.pow_le_pow_right (n:=2) (by decide) h2
 unfold w1
 omega
theorem w_ones (l:List Bool) (hl:l.length≤128):ones (w0 l) 64+ones (w1 l) 64=l.count true:=by
 unfold w0 w1
 rw [encW_ones,encW_ones,List.take_take,Nat.min_self,List.take_of_length_le (l:=l.drop 64) (by rw [List.length_drop];omega),←List.count_append,List.take_append_drop]
theorem w_rank (l:List Bool) (k:Nat) (hl:l.length≤128) (hk:k≤l.length):ones (w0 l) (min k 64)+ones (w1 l) (min (k - 64) 64)=(l.take k).count true:=by
 unfold w0 w1
 rw [encW_ones,encW_ones,List.take_take]
 rcases Nat.lt_or_ge k 64 with h | h
 · have e1:min (min k 64) 64=k:=by omega
   have e2:min (k - 64) 64=0:=by omega
   rw [e1,e2,List.take_zero,List.count_nil,Nat.add_zero]
 · have e1:min (min k 64) 64=64:=by omega
   have e2:min (k - 64) 64=k - 64:=by omega
   rw [e1,e2,←List.count_append]
   congr 1
   rw [←List.take_append_drop 64 (l.take k),List.take_take,List.drop_take]
   congr 2
   omega
theorem w_snoc_lo (l:List Bool) (b:Bool) (h:l.length < 64):w0 (l++ [b])=w0 l+(if b then 2 ^ l.length else 0)∧w1 (l++ [b])=w1 l:=by
 unfold w0 w1
 rw [List.take_of_length_le (by simp;omega),List.take_of_length_le (by omega),List.drop_of_length_le (by simp;omega),List.drop_of_length_le (by omega)]
 exact ⟨encW_snoc l b,rfl⟩
theorem w_snoc_hi (l:List Bool) (b:Bool) (h:64≤l.length):w0 (l++ [b])=w0 l∧w1 (l++ [b])=w1 l+(if b then 2 ^(l.length - 64) else 0):=by
 unfold w0 w1
 rw [List.take_append_of_le_length h,List.drop_append_of_le_length h,encW_snoc,List.length_drop]
 exact ⟨rfl,rfl⟩
theorem w0_small (l:List Bool) (h:l.length < 64):w0 l < 2 ^ l.length:=by
 unfold w0
 rw [List.take_of_length_le (by omega)]
 exact encW_lt l
theorem w1_small (l:List Bool):w1 l < 2 ^(l.length - 64):=by
 unfold w1
 have:=encW_lt (l.drop 64)
 rwa [List.length_drop] at this
end Go.Proofs.YtipaccakmndkgaaGreat
