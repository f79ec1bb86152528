/- The walks of run.Of and scrimshawref16.Runs: they lay the runs into new memory. Condition: at most 2^40 symbols. The walks of block.New, Len, Ones, Rank. Conditions: at most 128 bits. Regions that draw their order, whose operations all step along one relation S. No conditions. -/
import Derived.Test.YtipaccakmndkgaaGreatDoorPsl4
import Derived.Test.YtipaccakmndkgaaGreatDoorPsl2
import Derived.Laws.StructEq
import Derived.BigQuiet
import Derived.Deep.QuietTactic
import Derived.Test.YtipaccakmndkgaaGreatDoorPsl1
set_option linter.unusedVariables false
set_option linter.unusedSimpArgs false
set_option maxRecDepth 100000
set_option maxHeartbeats 4000000
namespace Go.Proofs.YtipaccakmndkgaaGreatDoor
open Go.RowKit
def runCell (x:Int×Nat):List Value:= [iv x.1,iv (x.2:Int)]
def runCells (r:List (Int×Nat)):List Value:=r.flatMap runCell
theorem runCells_len (r:List (Int×Nat)):(runCells r).length=r.length*2:=by
 induction r with
 | nil=>rfl
 | cons a r ih=>
   have e:runCells (a::r)=runCell a++runCells r:=by simp [runCells]
   rw [e,List.length_append,ih,List.length_cons]
   simp [runCell];omega
theorem runCells_append (a b:List (Int×Nat)):runCells (a++b)=runCells a++runCells b:=by simp [runCells,List.flatMap_append]
theorem runCells_get (r:List (Int×Nat)) (i j:Nat) (x:Int×Nat) (h:r[i]?=some x) (hj:j < 2):(runCells r)[i*2+j]?=(runCell x)[j]?:=by
 induction r generalizing i with
 | nil=>simp at h
 | cons a r ih=>
   have e:runCells (a::r)=runCell a++runCells r:=by simp [runCells]
   have hl:(runCell a).length=2:=rfl
   rcases i with _ | i
   · simp at h
     subst h
     rw [e,Nat.zero_mul,Nat.zero_add,List.getElem?_append_left (by omega)]
   · simp only [List.getElem?_cons_succ] at h
     rw [e,List.getElem?_append_right (by omega),hl,show (i+1)*2+j - 2=i*2+j by omega]
     exact ih i h
theorem run_info:(Tryz.prog.info? 191).map (fun i=>(i.zero,i.size,i.bytes))=some (some (.agg #[.int .i64 0,.int .i64 0]),2,16):=by kernel_rfl
theorem Of_own (A:Option Addr) (m c B:Nat) (l:List Int) (w:World) (hr:Rd w B 1 A m (l.map iv)) (hB:B≤w.heap.size) (hm:m≤1099511627776):
 Calls Tryz.prog 151 #[.slice A m c] w fun e w'=>∃v,e=.returned v∧w'.ownsRow w.heap.size 191 2 v (runsOf l).length (runCells (runsOf l))∧Below w.heap.size w w':=by
 obtain ⟨i0,hi0,hz0,hz1,hz2⟩:=info_parts run_info
 have hll:l.length=m:=by simpa using hr.1
 have Hll:=lhd hll
 have Hr:=lhd (hr.mono hB)
 clear hr hll
 go_enter Tryz.func151,Tryz.ntmps151
 go_wp2
 go_loopw [3,9] (fun v i wr=>∃k:Nat,k≤m∧i=.int .i64 k∧wr.ownsRow w.heap.size 191 2 v (runsOf (l.take k)).length (runCells (runsOf (l.take k)))∧Below w.heap.size w wr) (fun _ i _=>m -(intOf i).toNat)
 case atStart=>exact ⟨0,Nat.zero_le _,rfl,World.ownsRow_nil _ _ _ _,Below.refl _ _⟩
 case round=>
  obtain ⟨k,hk,rfl,hown,hb⟩:=hrel
  have hsz:=hb.size
  by_cases hlt:k < m
  · obtain ⟨s,hs⟩:∃s,l[k]?=some s:=⟨l[k]'(by have:=Hll.out;omega),List.getElem?_eq_getElem (by have:=Hll.out;omega)⟩
    obtain ⟨b,off,u,rfl,hbl,hu,hc⟩:=(Hr.out.below hb).get hlt
    rw [List.getElem?_map,hs] at hu
    simp at hu
    subst hu
    unfold iv at hc
    have hnext:=runsOf_snoc l k s hs
    have hlen:=runsOf_len (l.take k)
    rw [List.length_take] at hlen
    have hcnt:∀x∈runsOf (l.take k),x.2≤m:=fun x hx=>by have:=runsOf_mem _ x hx;rw [List.length_take] at this;omega
    generalize runsOf (l.take k)=r at*
    have Hnext:=lhd hnext
    clear hnext hs
    rcases List.eq_nil_or_concat r with rfl |⟨q,⟨x,n⟩,rfl⟩
    · obtain ⟨A',c',rfl,hm3⟩:=made_of_own hown
      have hlen0:([]:List (Int×Nat)).length=0:=rfl
      rw [hlen0] at*
      clear hm3 hcnt
      go_wp2_with (at_builtin;refine wpList_push _ rfl (.tmp 36) (.tmp 39) _ rfl w.heap.size 191 i0 _ 2 16 Tryz.underlying188 hi0 hz0 hz1 hz2 rfl (by decide) (.slice A' 0 c') 0 _ rfl hown rfl rfl (by simp [Value.oneCell']) (by unfold maxLen;omega) (by omega) hsz ?_;intro v2 w2 hown2 hg2 hs2 hat2)
      have hb2:=below_grown hb hown hg2 hsz
      clear hg2 hat2
      go_roundw
      case rel=>
       refine ⟨k+1,by omega,by go_num,?_,hb2⟩
       rw [Hnext.out,runStep_nil]
       exact hown2
      case measure=>simp [intOf];omega
    · rw [List.concat_eq_append] at*
      obtain ⟨p,hp⟩:∃p,q.length=p:=⟨_,rfl⟩
      have hl1:(q++ [(x,n)]).length=p+1:=by simp [hp]
      rw [hl1] at hown hlen
      obtain ⟨g,cap,cur,rfl,hg0,hgb,hpc,hcm,_⟩:∃g cap cur,u3=.slice (some ⟨g,0,none⟩) (p+1) cap∧w.heap.size≤g∧wr.heap[g]?=some (.cells cur 191 (0,0))∧p+1≤cap∧cap≤maxLen∧True:=by
       rcases hown.2 with ⟨_,h⟩|⟨g,cap,cur,h1,h2,h3,h4,h5,_⟩
       · omega
       · exact ⟨g,cap,cur,h1,h2,h3,h4,h5,trivial⟩
      have hx0:(runCells (q++ [(x,n)]))[p*2]?=some (iv x):=by
       have:=runCells_get (q++ [(x,n)]) p 0 (x,n) (by rw [List.getElem?_append_right (by omega),hp];simp) (by omega)
       simpa [runCell] using this
      have hx1:(runCells (q++ [(x,n)]))[p*2+1]?=some (iv n):=by
       have:=runCells_get (q++ [(x,n)]) p 1 (x,n) (by rw [List.getElem?_append_right (by omega),hp];simp) (by omega)
       simpa [runCell] using this
      have g0:wr.cell? ⟨g,p*2,none⟩=some (.int .i64 x):=(hown.cellAt (p*2) (by omega)).trans hx0
      have g1:wr.cell? ⟨g,p*2+1,none⟩=some (.int .i64 (n:Int)):=(hown.cellAt (p*2+1) (by omega)).trans hx1
      have f1:=hown.frozenAt (p*2+1)
      have hnb:(n:Int)≤1099511627776:=by have:=hcnt (x,n) (by simp);simp only at this;omega
      have hpp:((p+1:Nat):Int) - 1=(p:Int):=by omega
      have Hp:=lhd hp
      clear hx0 hx1 hp hl1 hgb hcnt
      by_cases hxs:x=s
      · have t1:(x==s)=true:=by rw [beq_iff_eq];exact hxs
        have Hxs:=lhd hxs
        clear hxs
        go_wp2
        obtain ⟨hst,hgr⟩:=hown.stored (p*2+1) (.int .i64 ((n:Int)+1))
        refine ⟨⟨k+1,by omega,by go_num,?_,hb.setCell (p:=⟨g,p*2+1,none⟩) hg0 _⟩,by simp [intOf];omega⟩
        rw [Hnext.out,←Hxs.out,runStep_same]
        have e1:(q++ [(x,n+1)]).length=p+1:=by simp [Hp.out]
        have e2:(runCells (q++ [(x,n)])).set (p*2+1) (.int .i64 ((n:Int)+1))=runCells (q++ [(x,n+1)]):=by
          rw [runCells_append,runCells_append,List.set_append_right _ _ (by rw [runCells_len,Hp.out];omega),runCells_len,Hp.out]
          congr 1
          rw [show p*2+1 - p*2=1 by omega]
          rfl
        rw [e1,←e2]
        exact hst
      · have t1:(x==s)=false:=by rw [beq_eq_false_iff_ne];exact hxs
        have Hxs:=lhd hxs
        clear hxs
        go_wp2_with (at_builtin;refine wpList_push _ rfl (.tmp 36) (.tmp 39) _ rfl w.heap.size 191 i0 _ 2 16 Tryz.underlying188 hi0 hz0 hz1 hz2 rfl (by decide) (.slice (some ⟨g,0,none⟩) (p+1) cap) (p+1) _ rfl hown rfl rfl (by simp [Value.oneCell']) (by unfold maxLen;omega) (by omega) hsz ?_;intro v2 w2 hown2 hg2 hs2 hat2)
        have hb2:=below_grown hb hown hg2 hsz
        clear hg2 hat2
        go_roundw
        case rel=>
          refine ⟨k+1,by omega,by go_num,?_,hb2⟩
          rw [Hnext.out,runStep_other _ _ _ _ Hxs.out,runCells_append]
          have e1:(q++ [(x,n)]++ [(s,1)]).length=p+1+1:=by simp [Hp.out]
          rw [e1]
          exact hown2
        case measure=>simp [intOf];omega
  · have hkm:k=m:=by omega
    have htk:l.take k=l:=List.take_of_length_le (by have:=Hll.out;omega)
    have hge:m≤k:=by omega
    rw [htk] at hown
    clear hkm htk
    go_wp2
    go_ret
    exact ⟨u3,rfl,hown,hb⟩
theorem RunOf_is (A:Option Addr) (m c B:Nat) (l:List Int) (w:World) (r:List (Int×Nat)) (n:Nat) (h:runsOf l=r) (hn:r.length=n) (hr:Rd w B 1 A m (l.map iv)) (hB:B≤w.heap.size) (hm:m≤1099511627776):
 Calls Tryz.prog 151 #[.slice A m c] w fun e w'=>∃A' c',e=.returned (.slice A' n c')∧Made w' w.heap.size 191 2 A' n c' (runCells r)∧Below w.heap.size w w':=by
 subst h
 subst hn
 refine (Of_own A m c B l w hr hB hm).mono fun e w' ⟨v,he,ho,hb⟩=>?_
 obtain ⟨A',c',rfl,hm⟩:=made_of_own ho
 exact ⟨A',c',he,hm,hb⟩
def blkC (l:List Bool):Array Value:=#[.int .i64 (l.length:Int),.int .u64 ((w0 l:Nat):Int),.int .u64 ((w1 l:Nat):Int)]
theorem or64 (a b:Nat) (ha:a < 18446744073709551616) (hb:b < 18446744073709551616):bits .or .u64 (a:Int) (b:Int)=((a||| b:Nat):Int):=
 (bits_nat .u64 64 (by decide) (fun n h0 h1=>by rw [IntKind.wrap_u64];omega) a b (by omega) (by omega)).2
theorem BlockNew_any (A:Option Addr) (m c B:Nat) (l:List Bool) (w:World) (hr:Rd w B 1 A m (l.map Value.bool)) (hB:B≤w.heap.size) (hm:m≤128):
 Calls Tryz.prog 240 #[.slice A m c] w fun e w'=>e=.returned (.tuple #[.pointer (some ⟨w.heap.size,0,none⟩),.int .i64 0])∧Bk w' w.heap.size 254 (blkC l)∧Below w.heap.size w w':=by
 have hll:l.length=m:=by simpa using hr.1
 have Hll:=lhd hll
 have Hr:=lhd (hr.mono hB)
 have hd:¬((m:Int) > 128):=by omega
 clear hr hll
 obtain ⟨gb,hgb⟩:∃gb,w.heap.size=gb:=⟨_,rfl⟩
 go_enter Tryz.func240,Tryz.ntmps240
 go_wp2
 have hb0:=(Below.refl w.heap.size w).alloc (Nat.le_refl _) (.cells #[.int .i64 (m:Int),.int .u64 0,.int .u64 0] 254)
 have hbk0:=Bk.new w 254 #[.int .i64 (m:Int),.int .u64 0,.int .u64 0]
 rw [hgb] at hbk0
 try rw [hgb]
 go_loopw [16] (fun i wr=>∃k:Nat,k≤m∧i=.int .i64 k∧Bk wr gb 254 #[.int .i64 (m:Int),.int .u64 ((w0 (l.take k):Nat):Int),.int .u64 ((w1 (l.take k):Nat):Int)]∧Below w.heap.size w wr) (fun i _=>m -(intOf i).toNat)
 case atStart=>exact ⟨0,Nat.zero_le _,rfl,hbk0,hb0⟩
 case round=>
  obtain ⟨k,hk,rfl,hbk,hb⟩:=hrel
  have hsz:=hb.size
  by_cases hlt:k < m
  · have hkl:k < l.length:=by rw [Hll.out];exact hlt
    obtain ⟨x,hx⟩:∃x,l[k]?=some x:=⟨l[k],List.getElem?_eq_getElem hkl⟩
    obtain ⟨b,off,u,rfl,hbl,hu,hc⟩:=(Hr.out.below hb).get hlt
    rw [List.getElem?_map,hx] at hu
    simp at hu
    subst hu
    have htk:l.take (k+1)=l.take k++ [x]:=by rw [List.take_add_one,hx];rfl
    have hlk:(l.take k).length=k:=by rw [List.length_take];omega
    cases x with
    | false=>
      have hn:w0 (l.take (k+1))=w0 (l.take k)∧w1 (l.take (k+1))=w1 (l.take k):=by
       rw [htk]
       rcases Nat.lt_or_ge k 64 with h | h
       · have:=w_snoc_lo (l.take k) false (by omega)
         simpa using this
       · have:=w_snoc_hi (l.take k) false (by omega)
         simpa using this
      have Hn:=lhd hn
      have Hbk:=lhd hbk
      clear hn htk hlk hx hbk
      go_wp2
      go_roundw
      case rel=>exact ⟨k+1,by omega,by go_num,by rw [Hn.out.1,Hn.out.2];exact Hbk.out,hb⟩
      case measure=>simp [intOf];omega
    | true=>
      rcases Nat.lt_or_ge k 64 with h64 | h64
      · obtain ⟨r,hr⟩:∃r:Nat,r=k:=⟨_,rfl⟩
        have hq64:IntKind.i64.wrap ((k:Int)/ 64)=0:=by rw [IntKind.wrap_i64];omega
        have hm64:(k:Int).tmod 64=(r:Int):=by rw [Int.tmod_eq_emod_of_nonneg (by omega)];omega
        have hu64:IntKind.u64.wrap (r:Int)=(r:Int):=by rw [IntKind.wrap_u64];omega
        have hr64:r < 64:=by omega
        obtain ⟨P,hP⟩:∃P:Nat,P=2 ^ r:=⟨_,rfl⟩
        have hP64:P < 18446744073709551616:=by
         have:=Nat.pow_lt_pow_right (a:=2) (by decide) hr64
         omega
        obtain ⟨W,hW⟩:∃W:Nat,W=w0 (l.take k):=⟨_,rfl⟩
        obtain ⟨Z,hZ⟩:∃Z:Nat,Z=w1 (l.take k):=⟨_,rfl⟩
        obtain ⟨W2,hW2⟩:∃W2:Nat,W2=W+P:=⟨_,rfl⟩
        have hWs:W < P:=by
         have:=w0_small (l.take k) (by omega)
         rw [hlk] at this
         rw [hW,hP,hr]
         exact this
        have hn:=w_snoc_lo (l.take k) true (by omega)
        rw [←htk,←hW,←hZ,hlk] at hn
        have hn2:w0 (l.take (k+1))=W2∧w1 (l.take (k+1))=Z:=⟨by rw [hn.1,hW2,hP,hr];rfl,hn.2⟩
        have hor:bits .or .u64 (W:Int) (P:Int)=(W2:Int):=by
         rw [or64 W P (by omega) hP64,hP,or_top W r (by rw [←hP];exact hWs),hW2,hP]
        have HW:=lhd hor
        have hPP:IntKind.u64.wrap ((2:Int)^ r)=(P:Int):=by
         rw [hP,IntKind.wrap_u64]
         have e:((2:Int)^ r)=((2 ^ r:Nat):Int):=by push_cast;rfl
         rw [e,←hP]
         omega
        have HP:=lhd hPP
        have Hn2:=lhd hn2
        rw [←hW,←hZ] at hbk
        clear hor hPP hn hn2 hW hZ hW2 hP hWs htk hlk hx hr
        go_wp2
        refine wp_region_any (by kernel_rfl) ?_
        refine wpAny_keep [22,23,24,25,26,27,28,29,30,31,32,33,34,35,36] (fun b=>b=gb) 15 [6,15] (fun w1=>Bk w1 gb 254 #[.int .i64 (m:Int),.int .u64 (W:Int),.int .u64 (Z:Int)]) (fun _ w1=>Bk w1 gb 254 #[.int .i64 (m:Int),.int .u64 (W2:Int),.int .u64 (Z:Int)]) [is (.pointer (some ⟨gb,0,none⟩)),is (.int .i64 (k:Int)),is (.int .i64 0),is (.pointer (some ⟨gb,0,none⟩)),is (.pointer (some ⟨gb,1,none⟩)),is (.pointer (some ⟨gb,1,none⟩)),is (.int .u64 (W:Int)),is (.int .i64 (k:Int)),is (.int .i64 (r:Int)),is (.int .u64 (r:Int)),is (.int .u64 (P:Int)),is (.int .u64 (W2:Int)),is (.pointer (some ⟨gb,0,none⟩)),is (.pointer (some ⟨gb,1,none⟩)),is (.pointer (some ⟨gb,1,none⟩)),anyV] _ _ rfl (by kernel_rfl) (by kernel_rfl) (hbk) (fun w1 w2 h _ hg=>Bk.below h hg h.lt) (fun _ _ _ h k=>Bk.below h k h.lt) (by repeat' (first | exact stbk_is _ _ | exact stbk_any _ |(refine List.forall_mem_cons.2 ⟨?_,?_⟩)|(intro p hp;cases hp))) ?_ ?_
        · refine steps_of ?_
          refine steps_cons (step_on3 rfl rfl fun ev _ _ _ _ _ hold _ _ _ _ hK=>?_) ?_
          · have e4:ev (.tmp 4)=.pointer (some ⟨gb,0,none⟩):=hold 4 (by kernel_rfl)
            go_simp
            exact kq hK rfl
          refine steps_cons (step_on3 rfl rfl fun ev _ _ _ _ _ hold _ _ _ _ hK=>?_) ?_
          · have e5:ev (.tmp 5)=.int .i64 (k:Int):=hold 5 (by kernel_rfl)
            go_simp
            exact kq hK rfl
          refine steps_cons (step_on3 rfl rfl fun _ _ _ _ _ _ _ hval _ _ _ hK=>?_) ?_
          · have e23:_=_:=hval 1 23 (by kernel_rfl) rfl
            go_simp
            exact hK _ _ (kstep_grow (Below.refl _ _)) (i64_eq (by first | rfl | omega))
          refine steps_cons (step_on3 rfl rfl fun _ _ _ _ _ _ _ hval _ _ _ hK=>?_) ?_
          · have e22:_=_:=hval 0 22 (by kernel_rfl) rfl
            go_simp
            exact kq hK rfl
          refine steps_cons (step_on3 rfl rfl fun _ _ _ _ _ _ _ hval _ _ _ hK=>?_) ?_
          · have e25:_=_:=hval 3 25 (by kernel_rfl) rfl
            go_simp
            exact kq hK rfl
          refine steps_cons (step_on3 rfl rfl fun _ _ _ _ _ _ _ hval _ _ _ hK=>?_) ?_
          · have e26:_=_:=hval 4 26 (by kernel_rfl) rfl
            have e24:_=_:=hval 2 24 (by kernel_rfl) rfl
            go_simp
            exact kq hK rfl
          refine steps_cons (step_on3 rfl rfl fun _ w5 _ hU _ _ _ hval _ _ _ hK=>?_) ?_
          · have hpre:=hU rfl
            have e27:_=_:=hval 5 27 (by kernel_rfl) rfl
            have c28:w5.cell? ⟨gb,1,none⟩=some (.int .u64 (W:Int)):=(hpre.cell 1).trans rfl
            go_simp
            exact kq hK rfl
          refine steps_cons (step_on3 rfl rfl fun ev _ _ _ _ _ hold _ _ _ _ hK=>?_) ?_
          · have e5:ev (.tmp 5)=.int .i64 (k:Int):=hold 5 (by kernel_rfl)
            go_simp
            exact kq hK rfl
          refine steps_cons (step_on3 rfl rfl fun _ _ _ _ _ _ _ hval _ _ _ hK=>?_) ?_
          · have e29:_=_:=hval 7 29 (by kernel_rfl) rfl
            go_simp
            exact hK _ _ (kstep_grow (Below.refl _ _)) (i64_eq (by first | rfl | omega))
          refine steps_cons (step_on3 rfl rfl fun _ _ _ _ _ _ _ hval _ _ _ hK=>?_) ?_
          · have e30:_=_:=hval 8 30 (by kernel_rfl) rfl
            go_simp
            exact hK _ _ (kstep_grow (Below.refl _ _)) (int_eq (by first | rfl | omega))
          refine steps_cons (step_on3 rfl rfl fun _ _ _ _ _ _ _ hval _ _ _ hK=>?_) ?_
          · have e31:_=_:=hval 9 31 (by kernel_rfl) rfl
            go_simp
            exact hK _ _ (kstep_grow (Below.refl _ _)) (int_eq (by first | exact HP.out | simpa using HP.out))
          refine steps_cons (step_on3 rfl rfl fun _ _ _ _ _ _ _ hval _ _ _ hK=>?_) ?_
          · have e28:_=_:=hval 6 28 (by kernel_rfl) rfl
            have e32:_=_:=hval 10 32 (by kernel_rfl) rfl
            go_simp
            exact hK _ _ (kstep_grow (Below.refl _ _)) (int_eq HW.out)
          refine steps_cons (step_on3 rfl rfl fun _ _ _ _ _ _ _ hval _ _ _ hK=>?_) ?_
          · have e22:_=_:=hval 0 22 (by kernel_rfl) rfl
            go_simp
            exact kq hK rfl
          refine steps_cons (step_on3 rfl rfl fun _ _ _ _ _ _ _ hval _ _ _ hK=>?_) ?_
          · have e34:_=_:=hval 12 34 (by kernel_rfl) rfl
            go_simp
            exact kq hK rfl
          refine steps_cons (step_on3 rfl rfl fun _ _ _ _ _ _ _ hval _ _ _ hK=>?_) ?_
          · have e35:_=_:=hval 13 35 (by kernel_rfl) rfl
            have e24:_=_:=hval 2 24 (by kernel_rfl) rfl
            go_simp
            exact kq hK rfl
          refine steps_cons (step_on3 rfl rfl fun _ w5 _ hU _ _ _ hval _ _ _ hK=>?_) ?_
          · have hpre:=hU rfl
            have e36:_=_:=hval 14 36 (by kernel_rfl) rfl
            have e33:_=_:=hval 11 33 (by kernel_rfl) rfl
            have c28:w5.cell? ⟨gb,1,none⟩=some (.int .u64 (W:Int)):=(hpre.cell 1).trans rfl
            have f28:=hpre.frozen 1
            go_simp
            exact hK (.bool true) _ (kstep_keep (Keep.setCell (F:=fun b=>b=gb) (Keep.refl _ _) (p:=⟨gb,1,none⟩) (.inl rfl) _)) (hpre.set 1 _)
          exact steps_nil
        · intro ev w6 hS hval hall
          replace hS:Keep (fun b=>b=gb) wr w6:=⟨hS.os,hS.tape,hS.output,hS.size,hS.block⟩
          obtain ⟨vJ,pJ⟩:∃v,(fun _ w1=>Bk w1 gb 254 #[.int .i64 (m:Int),.int .u64 (W2:Int),.int .u64 (Z:Int)]) v w6:=hall 15 (by decide)
          simp only [putsOf,List.foldl_cons,List.foldl_nil,Act.put,List.setIfInBounds_toArray,List.set_cons_zero,List.set_cons_succ]
          clear hval hall
          have hb6:Below w.heap.size w w6:=hb.trans (hS.to_below hsz (fun b hb h=>absurd (show b=gb from h) (by omega)))
          go_wp2
          go_roundw
          case rel=>exact ⟨k+1,by omega,by go_num,by rw [Hn2.out.1,Hn2.out.2];exact pJ,hb6⟩
          case measure=>simp [intOf];omega
      · obtain ⟨r,hr⟩:∃r:Nat,r=k - 64:=⟨_,rfl⟩
        have hq64:IntKind.i64.wrap ((k:Int)/ 64)=1:=by rw [IntKind.wrap_i64];omega
        have hm64:(k:Int).tmod 64=(r:Int):=by rw [Int.tmod_eq_emod_of_nonneg (by omega)];omega
        have hu64:IntKind.u64.wrap (r:Int)=(r:Int):=by rw [IntKind.wrap_u64];omega
        have hr64:r < 64:=by omega
        obtain ⟨P,hP⟩:∃P:Nat,P=2 ^ r:=⟨_,rfl⟩
        have hP64:P < 18446744073709551616:=by
         have:=Nat.pow_lt_pow_right (a:=2) (by decide) hr64
         omega
        obtain ⟨W,hW⟩:∃W:Nat,W=w1 (l.take k):=⟨_,rfl⟩
        obtain ⟨Z,hZ⟩:∃Z:Nat,Z=w0 (l.take k):=⟨_,rfl⟩
        obtain ⟨W2,hW2⟩:∃W2:Nat,W2=W+P:=⟨_,rfl⟩
        have hWs:W < P:=by
         have:=w1_small (l.take k)
         rw [hlk] at this
         rw [hW,hP,hr]
         exact this
        have hn:=w_snoc_hi (l.take k) true (by omega)
        rw [←htk,←hW,←hZ,hlk] at hn
        have hn2:w1 (l.take (k+1))=W2∧w0 (l.take (k+1))=Z:=⟨by rw [hn.2,hW2,hP,hr];rfl,hn.1⟩
        have hor:bits .or .u64 (W:Int) (P:Int)=(W2:Int):=by
         rw [or64 W P (by omega) hP64,hP,or_top W r (by rw [←hP];exact hWs),hW2,hP]
        have HW:=lhd hor
        have hPP:IntKind.u64.wrap ((2:Int)^ r)=(P:Int):=by
         rw [hP,IntKind.wrap_u64]
         have e:((2:Int)^ r)=((2 ^ r:Nat):Int):=by push_cast;rfl
         rw [e,←hP]
         omega
        have HP:=lhd hPP
        have Hn2:=lhd hn2
        rw [←hW,←hZ] at hbk
        clear hor hPP hn hn2 hW hZ hW2 hP hWs htk hlk hx hr
        go_wp2
        refine wp_region_any (by kernel_rfl) ?_
        refine wpAny_keep [22,23,24,25,26,27,28,29,30,31,32,33,34,35,36] (fun b=>b=gb) 15 [6,15] (fun w1=>Bk w1 gb 254 #[.int .i64 (m:Int),.int .u64 (Z:Int),.int .u64 (W:Int)]) (fun _ w1=>Bk w1 gb 254 #[.int .i64 (m:Int),.int .u64 (Z:Int),.int .u64 (W2:Int)]) [is (.pointer (some ⟨gb,0,none⟩)),is (.int .i64 (k:Int)),is (.int .i64 1),is (.pointer (some ⟨gb,0,none⟩)),is (.pointer (some ⟨gb,1,none⟩)),is (.pointer (some ⟨gb,2,none⟩)),is (.int .u64 (W:Int)),is (.int .i64 (k:Int)),is (.int .i64 (r:Int)),is (.int .u64 (r:Int)),is (.int .u64 (P:Int)),is (.int .u64 (W2:Int)),is (.pointer (some ⟨gb,0,none⟩)),is (.pointer (some ⟨gb,1,none⟩)),is (.pointer (some ⟨gb,2,none⟩)),anyV] _ _ rfl (by kernel_rfl) (by kernel_rfl) (hbk) (fun w1 w2 h _ hg=>Bk.below h hg h.lt) (fun _ _ _ h k=>Bk.below h k h.lt) (by repeat' (first | exact stbk_is _ _ | exact stbk_any _ |(refine List.forall_mem_cons.2 ⟨?_,?_⟩)|(intro p hp;cases hp))) ?_ ?_
        · refine steps_of ?_
          refine steps_cons (step_on3 rfl rfl fun ev _ _ _ _ _ hold _ _ _ _ hK=>?_) ?_
          · have e4:ev (.tmp 4)=.pointer (some ⟨gb,0,none⟩):=hold 4 (by kernel_rfl)
            go_simp
            exact kq hK rfl
          refine steps_cons (step_on3 rfl rfl fun ev _ _ _ _ _ hold _ _ _ _ hK=>?_) ?_
          · have e5:ev (.tmp 5)=.int .i64 (k:Int):=hold 5 (by kernel_rfl)
            go_simp
            exact kq hK rfl
          refine steps_cons (step_on3 rfl rfl fun _ _ _ _ _ _ _ hval _ _ _ hK=>?_) ?_
          · have e23:_=_:=hval 1 23 (by kernel_rfl) rfl
            go_simp
            exact hK _ _ (kstep_grow (Below.refl _ _)) (i64_eq (by first | rfl | omega))
          refine steps_cons (step_on3 rfl rfl fun _ _ _ _ _ _ _ hval _ _ _ hK=>?_) ?_
          · have e22:_=_:=hval 0 22 (by kernel_rfl) rfl
            go_simp
            exact kq hK rfl
          refine steps_cons (step_on3 rfl rfl fun _ _ _ _ _ _ _ hval _ _ _ hK=>?_) ?_
          · have e25:_=_:=hval 3 25 (by kernel_rfl) rfl
            go_simp
            exact kq hK rfl
          refine steps_cons (step_on3 rfl rfl fun _ _ _ _ _ _ _ hval _ _ _ hK=>?_) ?_
          · have e26:_=_:=hval 4 26 (by kernel_rfl) rfl
            have e24:_=_:=hval 2 24 (by kernel_rfl) rfl
            go_simp
            exact kq hK rfl
          refine steps_cons (step_on3 rfl rfl fun _ w5 _ hU _ _ _ hval _ _ _ hK=>?_) ?_
          · have hpre:=hU rfl
            have e27:_=_:=hval 5 27 (by kernel_rfl) rfl
            have c28:w5.cell? ⟨gb,2,none⟩=some (.int .u64 (W:Int)):=(hpre.cell 2).trans rfl
            go_simp
            exact kq hK rfl
          refine steps_cons (step_on3 rfl rfl fun ev _ _ _ _ _ hold _ _ _ _ hK=>?_) ?_
          · have e5:ev (.tmp 5)=.int .i64 (k:Int):=hold 5 (by kernel_rfl)
            go_simp
            exact kq hK rfl
          refine steps_cons (step_on3 rfl rfl fun _ _ _ _ _ _ _ hval _ _ _ hK=>?_) ?_
          · have e29:_=_:=hval 7 29 (by kernel_rfl) rfl
            go_simp
            exact hK _ _ (kstep_grow (Below.refl _ _)) (i64_eq (by first | rfl | omega))
          refine steps_cons (step_on3 rfl rfl fun _ _ _ _ _ _ _ hval _ _ _ hK=>?_) ?_
          · have e30:_=_:=hval 8 30 (by kernel_rfl) rfl
            go_simp
            exact hK _ _ (kstep_grow (Below.refl _ _)) (int_eq (by first | rfl | omega))
          refine steps_cons (step_on3 rfl rfl fun _ _ _ _ _ _ _ hval _ _ _ hK=>?_) ?_
          · have e31:_=_:=hval 9 31 (by kernel_rfl) rfl
            go_simp
            exact hK _ _ (kstep_grow (Below.refl _ _)) (int_eq (by first | exact HP.out | simpa using HP.out))
          refine steps_cons (step_on3 rfl rfl fun _ _ _ _ _ _ _ hval _ _ _ hK=>?_) ?_
          · have e28:_=_:=hval 6 28 (by kernel_rfl) rfl
            have e32:_=_:=hval 10 32 (by kernel_rfl) rfl
            go_simp
            exact hK _ _ (kstep_grow (Below.refl _ _)) (int_eq HW.out)
          refine steps_cons (step_on3 rfl rfl fun _ _ _ _ _ _ _ hval _ _ _ hK=>?_) ?_
          · have e22:_=_:=hval 0 22 (by kernel_rfl) rfl
            go_simp
            exact kq hK rfl
          refine steps_cons (step_on3 rfl rfl fun _ _ _ _ _ _ _ hval _ _ _ hK=>?_) ?_
          · have e34:_=_:=hval 12 34 (by kernel_rfl) rfl
            go_simp
            exact kq hK rfl
          refine steps_cons (step_on3 rfl rfl fun _ _ _ _ _ _ _ hval _ _ _ hK=>?_) ?_
          · have e35:_=_:=hval 13 35 (by kernel_rfl) rfl
            have e24:_=_:=hval 2 24 (by kernel_rfl) rfl
            go_simp
            exact kq hK rfl
          refine steps_cons (step_on3 rfl rfl fun _ w5 _ hU _ _ _ hval _ _ _ hK=>?_) ?_
          · have hpre:=hU rfl
            have e36:_=_:=hval 14 36 (by kernel_rfl) rfl
            have e33:_=_:=hval 11 33 (by kernel_rfl) rfl
            have c28:w5.cell? ⟨gb,2,none⟩=some (.int .u64 (W:Int)):=(hpre.cell 2).trans rfl
            have f28:=hpre.frozen 2
            go_simp
            exact hK (.bool true) _ (kstep_keep (Keep.setCell (F:=fun b=>b=gb) (Keep.refl _ _) (p:=⟨gb,2,none⟩) (.inl rfl) _)) (hpre.set 2 _)
          exact steps_nil
        · intro ev w6 hS hval hall
          replace hS:Keep (fun b=>b=gb) wr w6:=⟨hS.os,hS.tape,hS.output,hS.size,hS.block⟩
          obtain ⟨vJ,pJ⟩:∃v,(fun _ w1=>Bk w1 gb 254 #[.int .i64 (m:Int),.int .u64 (Z:Int),.int .u64 (W2:Int)]) v w6:=hall 15 (by decide)
          simp only [putsOf,List.foldl_cons,List.foldl_nil,Act.put,List.setIfInBounds_toArray,List.set_cons_zero,List.set_cons_succ]
          clear hval hall
          have hb6:Below w.heap.size w w6:=hb.trans (hS.to_below hsz (fun b hb h=>absurd (show b=gb from h) (by omega)))
          go_wp2
          go_roundw
          case rel=>exact ⟨k+1,by omega,by go_num,by rw [Hn2.out.1,Hn2.out.2];exact pJ,hb6⟩
          case measure=>simp [intOf];omega
  · have hge:m≤k:=by omega
    have htk:l.take k=l:=List.take_of_length_le (by have:=Hll.out;omega)
    rw [htk] at hbk
    have hfin:Bk wr gb 254 (blkC l):=by
        unfold blkC
        rw [Hll.out]
        exact hbk
    clear htk hbk
    go_wp2
    go_ret2
    rw [hgb] at hb⊢
    exact ⟨rfl,hfin,hb⟩
theorem BlockLen_any (gb:Nat) (l:List Bool) (w:World) (hb:Bk w gb 254 (blkC l)):
 Calls Tryz.prog 269 #[.pointer (some ⟨gb,0,none⟩)] w fun e w'=>e=.returned (.int .i64 (l.length:Int))∧w=w':=by
 have c0:w.cell? ⟨gb,0,none⟩=some (.int .i64 (l.length:Int)):=(hb.cell 0).trans rfl
 go_enter Tryz.func269,Tryz.ntmps269
 go_wp2
 go_ret
 exact ⟨rfl,rfl⟩
theorem blk_rd {w:World} {gb:Nat} {l:List Bool} (hb:Bk w gb 254 (blkC l)):Rd w w.heap.size 1 (some ⟨gb,1,none⟩) 2 ([w0 l,w1 l].map uvn):=by
 refine ⟨rfl,fun _=>⟨gb,1,rfl,hb.lt,fun j u hu=>?_⟩⟩
 rw [hb.cell]
 rcases j with _ | _ | j
 · exact hu
 · exact hu
 · simp at hu
theorem BlockOnes_any (gb:Nat) (l:List Bool) (w:World) (hb:Bk w gb 254 (blkC l)) (hl:l.length≤128):
 Calls Tryz.prog 287 #[.pointer (some ⟨gb,0,none⟩)] w fun e w'=>e=.returned (.int .i64 ((l.count true:Nat):Int))∧w=w':=by
 have hsum:(([w0 l,w1 l].map fun x=>ones x 64).sum)=l.count true:=by
  rw [←w_ones l hl]
  simp
 go_enter Tryz.func287,Tryz.ntmps287
 go_wp2_with fail
 refine (Count_any _ 2 2 _ [w0 l,w1 l] _ (blk_rd hb) (by intro n hn;simp at hn;rcases hn with rfl | rfl;exact w0_lt l;exact w1_lt l hl) (by omega)).mono ?_
 rintro e w' ⟨rfl,rfl⟩
 rw [hsum]
 go_wp2
 go_ret
 exact ⟨rfl,rfl⟩
theorem ix0 (a b:Int) (w:World):(Instr.index 252 (.agg #[.int .u64 a,.int .u64 b]) (.int .i64 0)).run Tryz.prog w=.ok (.int .u64 a) w:=by kernel_rfl
theorem ix1 (a b:Int) (w:World):(Instr.index 252 (.agg #[.int .u64 a,.int .u64 b]) (.int .i64 1)).run Tryz.prog w=.ok (.int .u64 b) w:=by kernel_rfl
theorem BlockRank_any (gb:Nat) (l:List Bool) (k:Nat) (w:World) (hb:Bk w gb 254 (blkC l)) (hl:l.length≤128) (hk:k≤l.length):
 Calls Tryz.prog 239 #[.pointer (some ⟨gb,0,none⟩),.int .i64 (k:Int)] w fun e w'=>e=.returned (.int .i64 (((l.take k).count true:Nat):Int))∧Below w.heap.size w w':=by
 have hfin:=w_rank l k hl hk
 obtain ⟨n,hn⟩:∃n,l.length=n:=⟨_,rfl⟩
 obtain ⟨u0,hu0⟩:∃u,w0 l=u:=⟨_,rfl⟩
 obtain ⟨u1,hu1⟩:∃u,w1 l=u:=⟨_,rfl⟩
 have b0:u0 < 18446744073709551616:=by rw [←hu0];exact w0_lt l
 have b1:u1 < 18446744073709551616:=by rw [←hu1];exact w1_lt l hl
 have r0:rankN u0 (k:Int)=ones u0 (min k 64):=by unfold rankN;rw [Int.toNat_natCast]
 have r1:rankN u1 ((k:Int) - 64)=ones u1 (min (k - 64) 64):=by unfold rankN;congr 2;omega
 rw [hu0,hu1] at hfin
 have l0:=ones_le u0 (min k 64)
 have l1:=ones_le u1 (min (k - 64) 64)
 have c0:w.cell? ⟨gb,0,none⟩=some (.int .i64 (n:Int)):=by rw [←hn];exact (hb.cell 0).trans rfl
 have c1:w.cell? ⟨gb,1,none⟩=some (.int .u64 (u0:Int)):=by rw [←hu0];exact (hb.cell 1).trans rfl
 have c2:w.cell? ⟨gb,2,none⟩=some (.int .u64 (u1:Int)):=by rw [←hu1];exact (hb.cell 2).trans rfl
 have hlt:=hb.lt
 have hkn:k≤n:=by omega
 have hn128:n≤128:=by omega
 have m1:max (k:Int) 0=(k:Int):=by omega
 have m2:min (k:Int) (n:Int)=(k:Int):=by omega
 have Hfin:=lhd hfin
 have R0:=lhd r0
 have k0:=ix0
 have k1:=ix1
 have R1:=lhd r1
 clear hb hfin hu0 hu1 hn hk r0 r1
 go_enter Tryz.func239,Tryz.ntmps239
 go_wp2_with fail
 go_loopw [5,14] (fun v i wr=>∃j:Nat,j≤2∧i=.int .i64 j∧v=.int .i64 (((if j=0 then 0 else if j=1 then ones u0 (min k 64) else (l.take k).count true):Nat):Int)∧Below w.heap.size w wr) (fun _ i _=>2 -(intOf i).toNat)
 case atStart=>exact ⟨0,by omega,rfl,rfl,Below.refl _ _⟩
 case round=>
  obtain ⟨j,hj,rfl,rfl,hb⟩:=hrel
  have hsz:=hb.size
  have d0:wr.cell? ⟨gb,0,none⟩=some (.int .i64 (n:Int)):=(hb.cell hlt).trans c0
  rcases j with _ | _ | _ | j
  · clear c1 c2
    simp only [if_true]
    go_wp2_with fail
    refine (BitsRank_any u0 (k:Int) b0 (by omega) _).mono ?_
    rintro e w' ⟨rfl,hb'⟩
    rw [R0.out]
    have hB:=hb.trans (hb'.mono hsz)
    go_wp2_with fail
    go_roundw
    case rel=>exact ⟨1,by omega,by go_num,by simp,hB⟩
    case measure=>simp [intOf]
  · clear c1 c2
    simp only [Nat.zero_add,Nat.one_ne_zero,if_false,if_true]
    go_wp2_with fail
    refine (BitsRank_any u1 ((k:Int) - 64) b1 (by omega) _).mono ?_
    rintro e w' ⟨rfl,hb'⟩
    rw [R1.out]
    have hB:=hb.trans (hb'.mono hsz)
    have hsum:(((ones u0 (min k 64):Nat):Int)+((ones u1 (min (k - 64) 64):Nat):Int))=(((l.take k).count true:Nat):Int):=by rw [←Hfin.out];push_cast;rfl
    go_wp2_with fail
    go_roundw
    case rel=>exact ⟨2,by omega,by go_num,by first | rfl |(simp;done)| exact i64_eq (by simpa using hsum),hB⟩
    case measure=>simp [intOf]
  · simp only [show ¬(0+1+1=0) by omega,show ¬(0+1+1=1) by omega,if_false]
    go_wp2
    go_ret
    exact ⟨rfl,hb⟩
  · omega
def StbS (S:World→World→Prop) (p:Value→World→Prop):Prop:=∀v w w',p v w→S w w'→p v w'
theorem stbs_is (S:World→World→Prop) (c:Value):StbS S (is c):=fun _ _ _ h _=>h
theorem stbs_any (S:World→World→Prop):StbS S anyV:=fun _ _ _ _ _=>trivial
theorem stbs_all {S:World→World→Prop} {l:List (Value→World→Prop)} (h:∀p∈l,StbS S p):∀i v w w',Vs l i v w→S w w'→Vs l i v w':=by
 intro i v w w' hp hs
 unfold Vs at hp⊢
 rw [List.getD_eq_getElem?_getD] at hp⊢
 rcases hl:l[i]? with _ | p
 · rw [hl] at hp
   exact hp
 · rw [hl] at hp
   exact h p (List.mem_of_getElem? hl) v w w' hp hs
end Go.Proofs.YtipaccakmndkgaaGreatDoor
