/- Plain laws: from a row to the row of the suffix one ahead. No conditions. The walks of crc's Step, table, More and Of. No conditions. The walk of the laws' Text: a text of at most so many bytes, of few letters or of all. Conditions: at most 1000 bytes are asked for. Plain laws: the places of a pattern are the rows between its bounds, sorted. No conditions. Plain laws: the rows that a search finds, and how often a pattern stands. No conditions. -/
import Derived.Test.YtipaccakmndkgaaGreatDoorPsl21
import Derived.Test.YtipaccakmndkgaaGreatDoorPsl4
import Derived.Laws.Rows
import Derived.Laws.Tables
import Derived.Laws.CopyOwn
import Derived.Deep.WholeRow
set_option linter.unusedVariables false
set_option linter.unusedSimpArgs false
set_option maxRecDepth 100000
set_option maxHeartbeats 1000000
namespace Go.Proofs.YtipaccakmndkgaaGreatDoor
open Go.RowKit
noncomputable def ltP (l:List Nat) (p x:Nat):Bool:=@decide (sufLt l x p) (Classical.propDecidable _)
theorem ltP_iff (l:List Nat) (p x:Nat):ltP l p x=true↔sufLt l x p:=by
 unfold ltP
 exact @decide_eq_true_iff _ (Classical.propDecidable _)
theorem idx_count {l rs:List Nat} (h:IsSuf l rs) (i:Nat) (hi:i < rs.length):rs.countP (ltP l rs[i])=i:=by
 have h1:(rs.take i).countP (ltP l rs[i])=i:=by
  rw [List.countP_eq_length.2 fun x hx=>?_]
  · rw [List.length_take];omega
  · obtain ⟨k,hk,rfl⟩:=List.mem_iff_getElem.1 hx
    rw [List.length_take] at hk
    rw [List.getElem_take,ltP_iff]
    exact List.pairwise_iff_getElem.1 h.sorted k i (by omega) hi (by omega)
 have h2:(rs.drop i).countP (ltP l rs[i])=0:=List.countP_eq_zero.2 fun x hx hp=>by
  obtain ⟨k,hk,rfl⟩:=List.mem_iff_getElem.1 hx
  rw [List.length_drop] at hk
  rw [List.getElem_drop,ltP_iff] at hp
  rcases Nat.eq_zero_or_pos k with h0 | h0
  · subst h0
    exact sufLt.asymm hp hp
  · exact sufLt.asymm hp (List.pairwise_iff_getElem.1 h.sorted i (i+k) hi (by omega) (by omega))
 have e:rs.countP (ltP l rs[i])=(rs.take i++rs.drop i).countP (ltP l rs[i]):=congrArg (List.countP _) (List.take_append_drop i rs).symm
 rw [e,List.countP_append]
 omega
theorem take_countP {l rs:List Nat} (h:IsSuf l rs) (P:Nat→Bool) (hd:∀x y,sufLt l x y→P y=true→P x=true) (s:Nat):((lastL l rs).take (rs.countP P)).count s=(List.range l.length).countP (fun p=>decide (prevL l p=s)&&P p):=by
 rw [lastL,←List.map_take,take_down h.sorted hd,←h.count,List.count_eq_countP,List.countP_map,List.countP_filter]
 refine List.countP_congr fun p _=>?_
 simp [Function.comp,and_comm]
theorem lf {l rs:List Nat} {m:Nat} (h:IsSuf l rs) (he:EndOk l m) {i j p:Nat} (hi:i < rs.length) (hj:j < rs.length) (hip:rs[i]=p+1) (hjp:rs[j]=p):narL (lastL l rs) (l.getD p 0) i=j:=by
 have hlen:=he.len
 have hpm:p < m:=by have:=h.lt (List.getElem_mem hi);omega
 have hs:=he.pos p hpm
 obtain ⟨s,hsd⟩:∃s,l.getD p 0=s:=⟨_,rfl⟩
 rw [hsd] at hs⊢
 have ci:=idx_count h i hi
 have cj:=idx_count h j hj
 rw [hip] at ci
 rw [hjp] at cj
 have htk:=take_countP h (ltP l (p+1)) (fun x y hxy hy=>by rw [ltP_iff] at hy⊢;exact hxy.trans hy) s
 rw [ci] at htk
 rw [h.count] at cj
 unfold narL
 rw [htk]
 have e1:(lastL l rs).countP (fun x=>decide (x < s))=(List.range (m+1)).countP (fun p=>decide (l.getD p 0 < s)):=by
  rw [lastL,List.countP_map,h.count,hlen]
  refine count_prev _ _ ?_ fun p hp=>?_
  · show decide (prevL l 0 < s)=_
    rw [prevL_zero (by omega),hlen,Nat.add_sub_cancel]
  · show decide (prevL l (p+1) < s)=_
    rw [prevL_succ (by omega)]
 have e2:(List.range l.length).countP (fun x=>decide (prevL l x=s)&&ltP l (p+1) x)=(List.range (m+1)).countP (fun x=>decide (l.getD x 0=s)&&ltP l (p+1) (x+1)):=by
  rw [hlen]
  refine count_prev _ _ ?_ fun x hx=>?_
  · show (decide (prevL l 0=s)&&_)=(decide (l.getD m 0=s)&&_)
    rw [prevL_zero (by omega),hlen,Nat.add_sub_cancel,he.last]
    have:decide (0=s)=false:=by simp;omega
    rw [this]
    rfl
  · show (decide (prevL l (x+1)=s)&&_)=_
    rw [prevL_succ (by omega)]
 rw [e1,e2,←countP_or,←cj,hlen]
 · refine List.countP_congr fun x hx=>?_
   have hx':x < m+1:=by simpa using hx
   rw [ltP_iff,sufLt_step,aN_getD (by omega:x < l.length),aN_getD (by omega:p < l.length),hsd]
   simp only [Bool.or_eq_true,Bool.and_eq_true,decide_eq_true_eq,ltP_iff]
   constructor
   · rintro (h1 |⟨h1,h2⟩)
     · exact .inl (by omega)
     · exact .inr ⟨by omega,h2⟩
   · rintro (h1 |⟨h1,h2⟩)
     · exact .inl (by omega)
     · exact .inr ⟨by omega,h2⟩
 · intro x _
   simp only [Bool.and_eq_true,decide_eq_true_eq]
   rintro ⟨h1,h2,_⟩
   omega
theorem lastL_at {l rs:List Nat} {m:Nat} (he:EndOk l m) {i p:Nat} (hi:i < rs.length) (hip:rs[i]=p+1) (hp:p < m):(lastL l rs)[i]'(by rw [lastL_len];exact hi)=l.getD p 0:=by
 have hlen:=he.len
 unfold lastL
 rw [List.getElem_map,hip,prevL_succ (by omega)]
theorem IsSuf.row {l rs:List Nat} (h:IsSuf l rs) {p:Nat} (hp:p < l.length):∃j,∃hj:j < rs.length,rs[j]=p:=by
 obtain ⟨j,hj,e⟩:=List.mem_iff_getElem.1 (h.mem hp)
 exact ⟨j,hj,e⟩
theorem bits_at (L:List Nat) (k lv:Nat) (hk:k < L.length):(bitsOf L lv (pathN L[k] lv))[atLv L k L[k] lv]?=some (bitB L[k] lv):=by
 unfold bitsOf atLv
 have e:L=L.take k++L[k]::L.drop (k+1):=by rw [←List.drop_eq_getElem_cons hk,List.take_append_drop]
 generalize hs:L[k]=s at e⊢
 generalize L.take k=A at e⊢
 rw [e,List.filter_append,List.filter_cons,if_pos (by simp),List.map_append,List.countP_eq_length_filter,List.getElem?_append_right (by simp)]
 simp
theorem bits_xor_u32 (a b:Nat) (ha:a < 4294967296) (hb:b < 4294967296):bits .xor .u32 (a:Int) (b:Int)=((a ^^^ b:Nat):Int):=by
 have hx:a ^^^ b < 2 ^ 32:=Nat.xor_lt_two_pow (by omega) (by omega)
 have h1:(BitVec.ofInt 32 (a:Int)).toNat=a:=by
  rw [BitVec.ofInt_natCast,BitVec.toNat_ofNat];exact Nat.mod_eq_of_lt (by omega)
 have h2:(BitVec.ofInt 32 (b:Int)).toNat=b:=by
  rw [BitVec.ofInt_natCast,BitVec.toNat_ofNat];exact Nat.mod_eq_of_lt (by omega)
 show IntKind.u32.wrap ((BitVec.ofInt 32 (a:Int)^^^ BitVec.ofInt 32 (b:Int)).toNat:Int)=_
 rw [BitVec.toNat_xor,h1,h2,IntKind.wrap_u32]
 omega
theorem bits_xor_u8 (a b:Nat) (ha:a < 256) (hb:b < 256):bits .xor .u8 (a:Int) (b:Int)=((a ^^^ b:Nat):Int):=by
 have hx:a ^^^ b < 2 ^ 8:=Nat.xor_lt_two_pow (by omega) (by omega)
 have h1:(BitVec.ofInt 8 (a:Int)).toNat=a:=by
  rw [BitVec.ofInt_natCast,BitVec.toNat_ofNat];exact Nat.mod_eq_of_lt (by omega)
 have h2:(BitVec.ofInt 8 (b:Int)).toNat=b:=by
  rw [BitVec.ofInt_natCast,BitVec.toNat_ofNat];exact Nat.mod_eq_of_lt (by omega)
 show IntKind.u8.wrap ((BitVec.ofInt 8 (a:Int)^^^ BitVec.ofInt 8 (b:Int)).toNat:Int)=_
 rw [BitVec.toNat_xor,h1,h2,IntKind.wrap_u8]
 omega
theorem bits_and_u32 (a:Nat) (ha:a < 4294967296):bits .and .u32 (a:Int) 1=((a % 2:Nat):Int):=by
 have h1:(BitVec.ofInt 32 (a:Int)).toNat=a:=by
  rw [BitVec.ofInt_natCast,BitVec.toNat_ofNat];exact Nat.mod_eq_of_lt (by omega)
 show IntKind.u32.wrap ((BitVec.ofInt 32 (a:Int)&&& BitVec.ofInt 32 (1:Int)).toNat:Int)=_
 rw [BitVec.toNat_and,h1]
 have h2:(BitVec.ofInt 32 (1:Int)).toNat=1:=by decide
 rw [h2,IntKind.wrap_u32,Nat.and_one_is_mod]
 omega
theorem CrcStep_any (s:Nat) (hs:s < 4294967296) (w:World):
 Calls Tryz.prog 247 #[.int .u32 (s:Int),.bool false] w fun e w'=>e=.returned (.int .u32 ((crcStep s:Nat):Int))∧Below w.heap.size w w':=by
 have e1:=bits_and_u32 s hs
 go_enter Tryz.func247,Tryz.ntmps247
 go_wp2_with fail
 · go_ret
   refine ⟨?_,Below.refl _ _⟩
   rename_i h
   have h':s % 2=1:=by
    have:=eq_of_beq h
    omega
   have e2:((s:Int)/ 2)=((s / 2:Nat):Int):=by omega
   have e3:(3988292384:Int)=((3988292384:Nat):Int):=rfl
   show Ending.returned (Value.int .u32 (bits .xor .u32 ((s:Int)/ 2) 3988292384))=_
   rw [e2,e3,bits_xor_u32 _ _ (by omega) (by omega),crcStep,if_pos h']
 · go_ret
   refine ⟨?_,Below.refl _ _⟩
   rename_i h
   have h':¬s % 2=1:=by
    intro h2
    have:((s:Int)% 2==1)=true:=beq_iff_eq.2 (by omega)
    rw [this] at h
    cases h
   show Ending.returned (Value.int .u32 ((s:Int)/ 2))=_
   rw [crcStep,if_neg h']
   rfl
def tabF (i v:Nat):Nat→Nat:=fun p=>if p < i then crcTab p else if p=i then v else 0
theorem tabF_set (i v u:Nat):(fun p=>if p=i then u else tabF i v p)=tabF i u:=by
 funext p
 unfold tabF
 by_cases h:p=i
 · rw [if_pos h,if_neg (by omega),if_pos h]
 · rw [if_neg h]
   by_cases h2:p < i
   · rw [if_pos h2,if_pos h2]
   · rw [if_neg h2,if_neg h2,if_neg h,if_neg h]
theorem tabF_next (i:Nat):tabF i (crcTab i)=tabF (i+1) 0:=by
 funext p
 unfold tabF
 by_cases h:p < i
 · rw [if_pos h,if_pos (by omega)]
 · rw [if_neg h]
   by_cases h2:p=i
   · subst h2
     rw [if_pos rfl,if_pos (by omega)]
   · rw [if_neg h2,if_neg (by omega)]
     split <;> rfl
@[irreducible] def crcC:Array Value:=arrK .u32 256 crcTab
@[irreducible] def tabC (i v:Nat):Array Value:=arrK .u32 256 (tabF i v)
theorem tabC_set {i v u:Nat} (h:i < 256):(tabC i v).setIfInBounds i (.int .u32 (u:Int))=tabC i u:=by
 unfold tabC
 rw [arrK_set h,tabF_set]
theorem tabC_get {i v:Nat} (h:i < 256):(tabC i v)[i]?=some (.int .u32 (v:Int)):=by
 unfold tabC
 rw [arrK_get h]
 unfold tabF
 rw [if_neg (by omega),if_pos rfl]
theorem tabC_next (i:Nat):tabC i (crcIt 8 i)=tabC (i+1) 0:=by
 unfold tabC
 rw [←tabF_next]
 rfl
theorem tabC_zero:Array.replicate 256 (Value.int .u32 0)=tabC 0 0:=by
 unfold tabC
 rw [arrK_zero]
 exact arrK_congr fun i hi=>by
  unfold tabF
  rw [if_neg (by omega)]
  split <;> rfl
theorem tabC_end (v:Nat):tabC 256 v=crcC:=by
 unfold tabC crcC
 exact arrK_congr fun i hi=>by
  unfold tabF
  rw [if_pos hi]
theorem crcC_get {i:Nat} (h:i < 256):crcC[i]?=some (.int .u32 ((crcTab i:Nat):Int)):=by
 unfold crcC
 exact arrK_get h
theorem crcC_size:crcC.size=256:=by unfold crcC;exact arrK_size _ _ _
theorem tabC_size (i v:Nat):(tabC i v).size=256:=by unfold tabC;exact arrK_size _ _ _
theorem table_ret {w w':World} {tmps:Array Value} {g:Nat} (hp:tmps.getD 0 undef=.pointer (some ⟨g,0,none⟩)) (hb:Bk w' g 234 crcC) (hz:(Tryz.prog.info? 234).map (·.size)=some crcC.size) (hk:Below w.heap.size w w'):
 bodyPost Tryz.prog Tryz.f213 (fun e w'=>e=.returned (.agg crcC)∧Below w.heap.size w w') .ret ⟨tmps, []⟩ w':=
 bodyPost_ret (results_cell_row (P:=Tryz.prog) (fn:=Tryz.f213) (p:=0) (ty:=234) rfl tmps w' g 234 crcC (0,0) _ hp hb Tryz.underlying234 rfl hz) rfl ⟨rfl,hk⟩
theorem xor32 (y:Nat) (h:y < 4294967296):bits .xor .u32 IntKind.u32.max (y:Int)=((4294967295 - y:Nat):Int):=by
 have e:IntKind.u32.max=((4294967295:Nat):Int):=by decide
 rw [e,bits_xor_u32 _ _ (by omega) h]
 congr 1
 have e1:(4294967295:Nat)^^^ y=(BitVec.allOnes 32 ^^^ BitVec.ofNat 32 y).toNat:=by
  rw [BitVec.toNat_xor,BitVec.toNat_ofNat,Nat.mod_eq_of_lt (by omega:y < 2 ^ 32)]
  rfl
 rw [e1,BitVec.allOnes_xor,BitVec.toNat_not,BitVec.toNat_ofNat,Nat.mod_eq_of_lt (by omega:y < 2 ^ 32)]
theorem CrcTable_any (w:World):
 Calls Tryz.prog 213 #[] w fun e w'=>e=.returned (.agg crcC)∧Below w.heap.size w w':=by
 go_enter Tryz.func213,Tryz.ntmps213
 go_wp2_with fail
 go_loopw [3] (fun i wr=>∃(k:Nat) (v:Nat),k≤256∧i=.int .i64 (k:Int)∧Bk wr w.heap.size 234 (tabC 0 0)∧Bk wr (w.heap.size+1) 234 (tabC k v)∧(k < 256→v=0)∧Below w.heap.size w wr) (fun i _=>256 -(intOf i).toNat)
 case atStart=>
  refine ⟨0,0,by omega,rfl,?_,?_,fun _=>rfl,?_⟩
  · rw [←tabC_zero]
    exact (Bk.new _ _ _).alloc _
  · rw [←tabC_zero]
    have h2:=Bk.new (w.alloc (.cells Tryz.zeroCells234 234)) 234 Tryz.zeroCells234
    rw [show (w.alloc (.cells Tryz.zeroCells234 234)).heap.size=w.heap.size+1 by simp] at h2
    exact h2
  · exact ((Below.refl _ _).alloc (Nat.le_refl _) _).alloc (by simp) _
 case round=>
  obtain ⟨k,v,hk,rfl,hb0,hb1,hv,hb⟩:=hrel
  by_cases hlt:k < 256
  · have hv0:=hv hlt
    subst hv0
    have h1:((k:Int) < 256):=by omega
    have c1:wr.cell? ⟨w.heap.size+1,k,none⟩=some (.int .u32 0):=(hb1.cell k).trans (tabC_get hlt)
    have f1:=hb1.frozen k
    go_wp2_with fail
    go_loopw [10] (fun i w2=>∃j:Nat,j≤8∧i=.int .i64 (j:Int)∧Bk w2 w.heap.size 234 (tabC 0 0)∧Bk w2 (w.heap.size+1) 234 (tabC k (crcIt j k))∧Below w.heap.size w w2) (fun i _=>8 -(intOf i).toNat)
    case atStart=>
        refine ⟨0,by omega,rfl,hb0.far (by simp) _,?_,hb.setCell (by simp) _⟩
        have:=hb1.set k (.int .u32 (k:Int))
        rw [tabC_set hlt] at this
        exact this
    case round=>
        obtain ⟨j,hj,rfl,hi0,hi1,hi⟩:=hrel
        by_cases hlj:j < 8
        · have hj1:((j:Int) < 8):=by omega
          have c2:wr.cell? ⟨w.heap.size+1,k,none⟩=some (.int .u32 ((crcIt j k:Nat):Int)):=(hi1.cell k).trans (tabC_get hlt)
          go_wp2_with fail
          refine (CrcStep_any (crcIt j k) (crcIt_lt (by omega) j) _).mono ?_
          rintro e w3 ⟨rfl,hb3⟩
          have hk1:=hi1.below hb3 hi1.lt
          have hk0:=hi0.below hb3 hi0.lt
          have c3:w3.cell? ⟨w.heap.size+1,k,none⟩=some (.int .u32 ((crcIt j k:Nat):Int)):=(hk1.cell k).trans (tabC_get hlt)
          have f3:=hk1.frozen k
          go_wp2_with fail
          go_roundw
          case rel=>
           refine ⟨j+1,by omega,by go_num,hk0.far (by simp) _,?_,(hi.trans (hb3.mono hi.size)).setCell (by simp) _⟩
           have:=hk1.set k (.int .u32 ((crcStep (crcIt j k):Nat):Int))
           rw [tabC_set hlt] at this
           exact this
          case measure=>simp [intOf];omega
        · have hks:j=8:=by omega
          subst hks
          go_wp2_with fail
          go_roundw
          case rel=>
           rw [tabC_next] at hi1
           exact ⟨k+1,0,by omega,by go_num,hi0,hi1,fun _=>rfl,hi⟩
          case measure=>simp [intOf];omega
  · have hks:k=256:=by omega
    subst hks
    rw [tabC_end] at hb1
    have H0:=lhd hb0
    have H1:=lhd hb1
    clear hb0 hb1
    have hsz:(Tryz.prog.info? 234).map (·.size)=some crcC.size:=by rw [crcC_size];kernel_rfl
    have hone:crcC.all (·.oneCell')=true:=by
        unfold crcC arrK
        rw [Array.all_eq_true_iff_forall_mem]
        intro v hv
        rw [List.mem_toArray,List.mem_map] at hv
        obtain ⟨p,_,rfl⟩:=hv
        rfl
    have HZ:=lhd hsz
    have HO:=lhd hone
    clear hsz hone
    go_wp2_with (first |(refine wpList_load_row (P:=Tryz.prog) rfl 234 (.tmp 1) rfl (w.heap.size+1) rfl 234 crcC (0,0) _ H1.out Tryz.underlying234 rfl HZ.out ?_)|(refine wpList_store_row (P:=Tryz.prog) rfl 234 (.tmp 0) (.tmp 20) rfl w.heap.size crcC rfl rfl 234 (tabC 0 0) H0.out HZ.out (by rw [tabC_size,crcC_size]) HO.out ?_))
    exact table_ret rfl (setRow_heap wr w.heap.size _ crcC _ _ H0.out) HZ.out (below_setRow hb (Nat.le_refl _) _)
theorem CrcMore_any (s:Nat) (hs:s < 4294967296) (A:Option Addr) (n c:Nat) (b:List UInt8) (w:World) (hr:Rd w w.heap.size 1 A n (b.map bv)) (hn:n≤1099511627776):
 Calls Tryz.prog 153 #[.int .u32 (s:Int),.slice A n c] w fun e w'=>e=.returned (.int .u32 ((crcMore s b:Nat):Int))∧Below w.heap.size w w':=by
 have hbl:b.length=n:=by have:=hr.1;simpa using this
 have H:=lhd hr
 clear hr
 have hsz:(Tryz.prog.info? 234).map (·.size)=some crcC.size:=by rw [crcC_size];kernel_rfl
 have hone:crcC.all (·.oneCell')=true:=by
  unfold crcC arrK
  rw [Array.all_eq_true_iff_forall_mem]
  intro v hv
  rw [List.mem_toArray,List.mem_map] at hv
  obtain ⟨p,_,rfl⟩:=hv
  rfl
 have HZ:=lhd hsz
 have HO:=lhd hone
 clear hsz hone
 go_enter Tryz.func153,Tryz.ntmps153
 go_wp2_with fail
 refine (CrcTable_any _).mono ?_
 rintro e w1 ⟨rfl,hb1⟩
 go_wp2_with (refine wpList_store_row (P:=Tryz.prog) rfl 234 (.tmp 5) (.tmp 8) rfl w1.heap.size crcC rfl rfl 234 Tryz.zeroCells234 (heap_alloc_new _ _) HZ.out (by rw [crcC_size];kernel_rfl) HO.out ?_;rw [World.setRow_alloc_new])
 rw [xor32 s hs]
 have hl1:=hb1.size
 go_loopw [0,13] (fun v i wr=>∃k:Nat,k≤n∧i=.int .i64 (k:Int)∧v=.int .u32 ((crcGo (b.take k) (4294967295 - s):Nat):Int)∧Bk wr w1.heap.size 234 crcC∧Below w.heap.size w wr) (fun _ i _=>n -(intOf i).toNat)
 case atStart=>exact ⟨0,by omega,rfl,by rw [List.take_zero];rfl,Bk.new _ _ _,hb1.alloc hl1 _⟩
 case round=>
  obtain ⟨k,hk,rfl,rfl,hb2,hb⟩:=hrel
  by_cases hlt:k < n
  · obtain ⟨bk,off,u,rfl,hbb,hu,hcell⟩:=(H.out.below hb).get hlt
    rw [List.getElem?_map] at hu
    obtain ⟨x,hx⟩:∃x,b[k]?=some x:=⟨_,List.getElem?_eq_getElem (by omega)⟩
    rw [hx] at hu
    injection hu with hu
    subst hu
    have hst:b.take (k+1)=b.take k++ [x]:=by rw [List.take_add_one,hx];rfl
    have hsn:=crcGo_snoc (b.take k) x (4294967295 - s)
    rw [←hst] at hsn
    have hvl:=crcGo_lt (b.take k) (4294967295 - s) (by omega)
    obtain ⟨v,hv⟩:∃v,crcGo (b.take k) (4294967295 - s)=v:=⟨_,rfl⟩
    rw [hv] at hsn hvl
    rw [hv]
    have hin:=crc_in hvl x
    have hxl:=x.toNat_lt
    have e1:bits .xor .u8 ((v:Int)% 256) (x.toNat:Int)=(((v % 256)^^^ x.toNat:Nat):Int):=by
        have:((v:Int)% 256)=((v % 256:Nat):Int):=by omega
        rw [this,bits_xor_u8 _ _ (by omega) hxl]
    obtain ⟨y,hy⟩:∃y,(v % 256)^^^ x.toNat=y:=⟨_,rfl⟩
    rw [hy] at hsn hin e1
    have c1:wr.cell? ⟨w1.heap.size,y,none⟩=some (.int .u32 ((crcTab y:Nat):Int)):=(hb2.cell y).trans (crcC_get hin)
    have e2:bits .xor .u32 ((crcTab y:Nat):Int) ((v:Int)/ 256)=((crcTab y ^^^(v / 256):Nat):Int):=by
        have:((v:Int)/ 256)=((v / 256:Nat):Int):=by omega
        rw [this,bits_xor_u32 _ _ (crcTab_lt hin) (by omega)]
    unfold bv at hcell
    go_wp2_with fail
    go_roundw
    case rel=>exact ⟨k+1,by omega,by go_num,by rw [hsn],hb2,hb⟩
    case measure=>simp [intOf];omega
  · have hks:k=n:=by omega
    subst hks
    rw [List.take_of_length_le (by omega:b.length≤k)]
    have e1:=xor32 _ (crcGo_lt b (4294967295 - s) (by omega))
    go_wp2_with fail
    go_ret
    exact ⟨rfl,hb⟩
theorem CrcOf_any (A AP:Option Addr) (n c cp:Nat) (b:List UInt8) (w:World) (hr:Rd w w.heap.size 1 A n (b.map bv)) (hn:n≤1099511627776) (hp:Rd w w.heap.size 1 AP 1 [.slice A n c]):
 Calls Tryz.prog 77 #[.slice AP 1 cp] w fun e w'=>e=.returned (.int .u32 ((crcB b:Nat):Int))∧Below w.heap.size w w':=by
 obtain ⟨bk,off,u,rfl,hbb,hu,hcell⟩:=hp.get (k:=0) (by omega)
 injection hu with hu
 subst hu
 go_enter Tryz.func77,Tryz.ntmps77
 go_wp2_with fail
 go_loopw [3,8] (fun v i wr=>∃k:Nat,k≤1∧i=.int .i64 (k:Int)∧v=.int .u32 (((if k=0 then 0 else crcB b):Nat):Int)∧Below w.heap.size w wr) (fun _ i _=>1 -(intOf i).toNat)
 case atStart=>exact ⟨0,by omega,rfl,rfl,Below.refl _ _⟩
 case round=>
  obtain ⟨k,hk,rfl,rfl,hb⟩:=hrel
  by_cases hlt:k < 1
  · have hks:k=0:=by omega
    subst hks
    have hcell:wr.cell? ⟨bk,off,none⟩=some (.slice A n c):=(hb.cell hbb).trans hcell
    rw [if_pos rfl]
    go_wp2_with fail
    refine (CrcMore_any 0 (by omega) A n c b wr ((hr.below hb).mono hb.size) hn).mono ?_
    rintro e w1 ⟨rfl,hb1⟩
    go_wp2_with fail
    go_roundw
    case rel=>exact ⟨1,by omega,rfl,rfl,hb.trans (hb1.mono hb.size)⟩
    case measure=>simp [intOf]
  · have hks:k=1:=by omega
    subst hks
    rw [if_neg (by omega)]
    go_wp2_with fail
    go_ret
    exact ⟨rfl,hb⟩
theorem pq_at {l rs:List Nat} (h:IsSuf l rs) (b:Bool) (q:List Nat) (i:Nat) (hi:i < rs.length):Pq l b q rs[i]=decide (i < Nq l b q):=by
 have hN:rs.countP (Pq l b q)=Nq l b q:=h.count _
 have ht:=take_down (P:=Pq l b q) h.sorted (fun x y hxy hy=>Pq_down q hxy hy)
 rw [hN] at ht
 rw [Bool.eq_iff_iff,decide_eq_true_eq]
 constructor
 · intro hp
   by_cases hlt:i < Nq l b q
   · exact hlt
   · exfalso
     have hall:∀x∈rs.take (i+1),Pq l b q x=true:=by
        intro x hx
        obtain ⟨k,hk,rfl⟩:=List.mem_iff_getElem.1 hx
        rw [List.length_take] at hk
        rw [List.getElem_take]
        rcases Nat.lt_or_ge k i with h1 | h1
        · exact Pq_down q (List.pairwise_iff_getElem.1 h.sorted k i (by omega) hi h1) hp
        · obtain rfl:k=i:=by omega
          exact hp
     have h1:=List.countP_eq_length.2 hall
     rw [List.length_take] at h1
     have h2:(rs.take (i+1)).countP (Pq l b q)≤rs.countP (Pq l b q):=(List.take_sublist _ _).countP_le
     omega
 · intro hlt
   have hm:rs[i]∈rs.take (Nq l b q):=by
    rw [List.mem_take_iff_getElem]
    exact ⟨i,by omega,rfl⟩
   rw [ht,List.mem_filter] at hm
   exact hm.2
theorem preq_at {l rs:List Nat} (h:IsSuf l rs) (q:List Nat) (i:Nat) (hi:i < rs.length):preQ l q rs[i]=true↔Nq l false q≤i∧i < Nq l true q:=by
 obtain ⟨h1,h2⟩:=Pq_or l q rs[i]
 rw [pq_at h false q i hi,pq_at h true q i hi] at h1
 rw [pq_at h false q i hi] at h2
 constructor
 · intro hp
   rw [hp] at h1 h2
   constructor
   · rcases Nat.lt_or_ge i (Nq l false q) with h3 | h3
     · exact absurd ⟨decide_eq_true h3,rfl⟩ h2
     · exact h3
   · simpa using h1
 · rintro ⟨h3,h4⟩
   rw [decide_eq_true h4,decide_eq_false (by omega)] at h1
   simpa using h1.symm
theorem mid_filter {α:Type} (P:α→Bool) (rs:List α) (a b:Nat) (hab:a≤b) (hb:b≤rs.length) (h:∀i (hi:i < rs.length),P rs[i]=true↔a≤i∧i < b):(rs.drop a).take (b - a)=rs.filter P:=by
 have e:rs=rs.take a++((rs.drop a).take (b - a)++(rs.drop a).drop (b - a)):=by rw [List.take_append_drop,List.take_append_drop]
 conv=>rhs;rw [e]
 rw [List.filter_append,List.filter_append]
 have h1:(rs.take a).filter P= []:=List.filter_eq_nil_iff.2 fun x hx hp=>by
  obtain ⟨k,hk,rfl⟩:=List.mem_iff_getElem.1 hx
  rw [List.length_take] at hk
  rw [List.getElem_take] at hp
  have:=(h k (by omega)).1 hp
  omega
 have h2:((rs.drop a).take (b - a)).filter P=(rs.drop a).take (b - a):=List.filter_eq_self.2 fun x hx=>by
  obtain ⟨k,hk,rfl⟩:=List.mem_iff_getElem.1 hx
  rw [List.length_take,List.length_drop] at hk
  rw [List.getElem_take,List.getElem_drop]
  exact (h (a+k) (by omega)).2 ⟨by omega,by omega⟩
 have h3:((rs.drop a).drop (b - a)).filter P= []:=List.filter_eq_nil_iff.2 fun x hx hp=>by
  obtain ⟨k,hk,rfl⟩:=List.mem_iff_getElem.1 hx
  rw [List.length_drop,List.length_drop] at hk
  rw [List.getElem_drop,List.getElem_drop] at hp
  have:=(h (a+(b - a+k)) (by omega)).1 hp
  omega
 rw [h1,h2,h3]
 simp
def placesT (t q:List UInt8):List Nat:=(List.range (t.length+1)).filter (preQ (symL t) (symB q))
theorem rows_mid {t:List UInt8} {rs:List Nat} (h:IsSuf (symL t) rs) (q:List UInt8):((rs.drop (Nq (symL t) false (symB q))).take (Nq (symL t) true (symB q) - Nq (symL t) false (symB q))).Perm (placesT t q):=by
 have hab:Nq (symL t) false (symB q)≤Nq (symL t) true (symB q):=by rw [Nq_occ];omega
 rw [mid_filter (preQ (symL t) (symB q)) rs _ _ hab (by rw [h.len];exact Nq_le _ _ _) (fun i hi=>preq_at h (symB q) i hi)]
 have:=h.perm.filter (preQ (symL t) (symB q))
 rw [symL_len] at this
 exact this
theorem eq_of_sorted:∀(a b:List Int),a.Pairwise (fun x y=>x≤y)→b.Pairwise (fun x y=>x≤y)→a.Perm b→a=b
 | [],b,_,_,h=>h.nil_eq.symm ▸ rfl
 | x::a, [],_,_,h=>by simp at h
 | x::a,y::b,ha,hb,h=>by
   obtain ⟨h1,h2⟩:=List.pairwise_cons.1 ha
   obtain ⟨h3,h4⟩:=List.pairwise_cons.1 hb
   have hxy:x=y:=by
    have hx:x∈y::b:=h.mem_iff.1 (by simp)
    have hy:y∈x::a:=h.mem_iff.2 (by simp)
    rcases List.mem_cons.1 hx with e | hx
    · exact e
    · rcases List.mem_cons.1 hy with e | hy
      · exact e.symm
      · have:=h1 y hy
        have:=h3 x hx
        omega
   subst hxy
   rw [eq_of_sorted a b h2 h4 (List.perm_cons x |>.1 h)]
theorem sort_places {t:List UInt8} {rs:List Nat} (h:IsSuf (symL t) rs) (q:List UInt8):(((rs.drop (Nq (symL t) false (symB q))).take (Nq (symL t) true (symB q) - Nq (symL t) false (symB q))).map fun n:Nat=>(n:Int)).mergeSort (fun x y=>decide (x≤y))=(placesT t q).map fun n:Nat=>(n:Int):=by
 refine eq_of_sorted _ _ ?_ ?_ ((List.mergeSort_perm _ _).trans ((rows_mid h q).map _))
 · have:=List.pairwise_mergeSort (le:=fun x y:Int=>decide (x≤y)) (fun a b c h1 h2=>by simp at*;omega) (fun a b=>by simp;omega) (((rs.drop (Nq (symL t) false (symB q))).take (Nq (symL t) true (symB q) - Nq (symL t) false (symB q))).map fun n:Nat=>(n:Int))
   exact this.imp fun h=>by simpa using h
 · rw [List.pairwise_map]
   unfold placesT
   refine (List.Pairwise.filter _ List.pairwise_lt_range).imp fun {a b} h=>?_
   omega
end Go.Proofs.YtipaccakmndkgaaGreatDoor
namespace Go.Proofs.YtipaccakmndkgaaGreatDoor
theorem rowsN_Nq {l rs:List Nat} {m:Nat} (h:IsSuf l rs) (he:EndOk l m) (p:List UInt8):rowsN (lastL l rs) p=(Nq l false (symB p),Nq l true (symB p)):=by
 have hL:(lastL l rs).length=l.length:=by rw [lastL_len,h.len]
 unfold rowsN
 rw [hL]
 induction p with
 | nil=>
   obtain ⟨h1,h2⟩:=Nq_nil l
   show (0,l.length)=(Nq l false [],Nq l true [])
   rw [h1,h2]
 | cons c p ih=>
   rw [List.reverse_cons,List.foldl_append,ih]
   show (narL _ (c.toNat+1) (Nq l false (symB p)),narL _ (c.toNat+1) (Nq l true (symB p)))=_
   rw [narL_Nq h he _ _ _ (by omega),narL_Nq h he _ _ _ (by omega)]
   rfl
end Go.Proofs.YtipaccakmndkgaaGreatDoor
