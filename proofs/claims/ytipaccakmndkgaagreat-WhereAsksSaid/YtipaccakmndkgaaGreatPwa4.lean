/- The walks of block.New, Len, Ones, Rank. Conditions: at most 128 bits. -/
import Derived.Test.YtipaccakmndkgaaGreatPwa1
import Derived.Test.YtipaccakmndkgaaGreatPwa3
namespace Go.Proofs.YtipaccakmndkgaaGreat
open Go.RowKit
set_option linter.unusedVariables false
set_option linter.unusedSimpArgs false
def blkC (l:List Bool):Array Value:=#[.int .i64 (l.length:Int),.int .u64 ((w0 l:Nat):Int),.int .u64 ((w1 l:Nat):Int)]
theorem or64 (a b:Nat) (ha:a < 18446744073709551616) (hb:b < 18446744073709551616):bits .or .u64 (a:Int) (b:Int)=((a||| b:Nat):Int):=
 (bits_nat .u64 64 (by decide) (fun n h0 h1=>by rw [IntKind.wrap_u64];omega) a b (by omega) (by omega)).2
set_option maxRecDepth 100000 in
set_option maxHeartbeats 4000000 in
theorem BlockNew_any (A:Option Addr) (m c B:Nat) (l:List Bool) (w:World) (hr:Rd w B 1 A m (l.map Value.bool)) (hB:B≤w.heap.size) (hm:m≤128):
 Calls Tryz.prog 132 #[.slice A m c] w fun e w'=>e=.returned (.tuple #[.pointer (some ⟨w.heap.size,0,none⟩),.int .i64 0])∧Bk w' w.heap.size 146 (blkC l)∧Below w.heap.size w w':=by
 have hll:l.length=m:=by simpa using hr.1
 have Hll:=Lib.hid hll
 have Hr:=Lib.hid (hr.mono hB)
 have hd:¬((m:Int) > 128):=by omega
 clear hr hll
 obtain ⟨gb,hgb⟩:∃gb,w.heap.size=gb:=⟨_,rfl⟩
 go_enter Tryz.func132,Tryz.ntmps132
 go_wp2
 have hb0:=(Below.refl w.heap.size w).alloc (Nat.le_refl _) (.cells #[.int .i64 (m:Int),.int .u64 0,.int .u64 0] 146)
 have hbk0:=Bk.new w 146 #[.int .i64 (m:Int),.int .u64 0,.int .u64 0]
 rw [hgb] at hbk0
 try rw [hgb]
 go_loopw [16] (fun i wr=>∃k:Nat,k≤m∧i=.int .i64 k∧Bk wr gb 146 #[.int .i64 (m:Int),.int .u64 ((w0 (l.take k):Nat):Int),.int .u64 ((w1 (l.take k):Nat):Int)]∧Below w.heap.size w wr) (fun i _=>m -(intOf i).toNat)
 case atStart=>exact ⟨0,Nat.zero_le _,rfl,hbk0,hb0⟩
 case round=>
  obtain ⟨k,hk,rfl,hbk,hb⟩:=hrel
  have hsz:=hb.size
  by_cases hlt:k < m
  · have hkl:k < l.length:=by rw [Hll.out];exact hlt
    obtain ⟨x,hx⟩:∃x,l[k]?=some x:=⟨l[k],List.getElem?_eq_getElem hkl⟩
    obtain ⟨b,off,u,rfl,hbl,hu,hc⟩:=(Hr.out.below hb).get hlt
    rw [List.getElem?_map,hx] at hu
    simp at hu
    subst hu
    have htk:l.take (k+1)=l.take k++ [x]:=by rw [List.take_add_one,hx];rfl
    have hlk:(l.take k).length=k:=by rw [List.length_take];omega
    cases x with
    | false=>
      have hn:w0 (l.take (k+1))=w0 (l.take k)∧w1 (l.take (k+1))=w1 (l.take k):=by
       rw [htk]
       rcases Nat.lt_or_ge k 64 with h | h
       · have:=w_snoc_lo (l.take k) false (by omega)
         simpa using this
       · have:=w_snoc_hi (l.take k) false (by omega)
         simpa using this
      have Hn:=Lib.hid hn
      have Hbk:=Lib.hid hbk
      clear hn htk hlk hx hbk
      go_wp2
      go_roundw
      case rel=>exact ⟨k+1,by omega,by go_num,by rw [Hn.out.1,Hn.out.2];exact Hbk.out,hb⟩
      case measure=>simp [intOf];omega
    | true=>
      rcases Nat.lt_or_ge k 64 with h64 | h64
      · obtain ⟨r,hr⟩:∃r:Nat,r=k:=⟨_,rfl⟩
        have hq64:IntKind.i64.wrap ((k:Int)/ 64)=0:=by rw [IntKind.wrap_i64];omega
        have hm64:(k:Int).tmod 64=(r:Int):=by rw [Int.tmod_eq_emod_of_nonneg (by omega)];omega
        have hu64:IntKind.u64.wrap (r:Int)=(r:Int):=by rw [IntKind.wrap_u64];omega
        have hr64:r < 64:=by omega
        obtain ⟨P,hP⟩:∃P:Nat,P=2 ^ r:=⟨_,rfl⟩
        have hP64:P < 18446744073709551616:=by
         have:=Nat.pow_lt_pow_right (a:=2) (by decide) hr64
         omega
        obtain ⟨W,hW⟩:∃W:Nat,W=w0 (l.take k):=⟨_,rfl⟩
        obtain ⟨Z,hZ⟩:∃Z:Nat,Z=w1 (l.take k):=⟨_,rfl⟩
        obtain ⟨W2,hW2⟩:∃W2:Nat,W2=W+P:=⟨_,rfl⟩
        have hWs:W < P:=by
         have:=w0_small (l.take k) (by omega)
         rw [hlk] at this
         rw [hW,hP,hr]
         exact this
        have hn:=w_snoc_lo (l.take k) true (by omega)
        rw [←htk,←hW,←hZ,hlk] at hn
        have hn2:w0 (l.take (k+1))=W2∧w1 (l.take (k+1))=Z:=⟨by rw [hn.1,hW2,hP,hr];rfl,hn.2⟩
        have hor:bits .or .u64 (W:Int) (P:Int)=(W2:Int):=by
         rw [or64 W P (by omega) hP64,hP,or_top W r (by rw [←hP];exact hWs),hW2,hP]
        have HW:=Lib.hid hor
        have hPP:IntKind.u64.wrap ((2:Int)^ r)=(P:Int):=by
         rw [hP,IntKind.wrap_u64]
         have e:((2:Int)^ r)=((2 ^ r:Nat):Int):=by push_cast;rfl
         rw [e,←hP]
         omega
        have HP:=Lib.hid hPP
        have Hn2:=Lib.hid hn2
        rw [←hW,←hZ] at hbk
        clear hor hPP hn hn2 hW hZ hW2 hP hWs htk hlk hx hr
        go_wp2
        refine wp_region_any (by kernel_rfl) ?_
        refine wpAny_keep [22,23,24,25,26,27,28,29,30,31,32,33,34,35,36] (fun b=>b=gb) 15 [6,15] (fun w1=>Bk w1 gb 146 #[.int .i64 (m:Int),.int .u64 (W:Int),.int .u64 (Z:Int)]) (fun _ w1=>Bk w1 gb 146 #[.int .i64 (m:Int),.int .u64 (W2:Int),.int .u64 (Z:Int)]) [is (.pointer (some ⟨gb,0,none⟩)),is (.int .i64 (k:Int)),is (.int .i64 0),is (.pointer (some ⟨gb,0,none⟩)),is (.pointer (some ⟨gb,1,none⟩)),is (.pointer (some ⟨gb,1,none⟩)),is (.int .u64 (W:Int)),is (.int .i64 (k:Int)),is (.int .i64 (r:Int)),is (.int .u64 (r:Int)),is (.int .u64 (P:Int)),is (.int .u64 (W2:Int)),is (.pointer (some ⟨gb,0,none⟩)),is (.pointer (some ⟨gb,1,none⟩)),is (.pointer (some ⟨gb,1,none⟩)),anyV] _ _ rfl (by kernel_rfl) (by kernel_rfl) (hbk) (fun w1 w2 h _ hg=>Bk.below h hg h.lt) (fun _ _ _ h k=>Bk.below h k h.lt) (by repeat' (first | exact stbk_is _ _ | exact stbk_any _ |(refine List.forall_mem_cons.2 ⟨?_,?_⟩)|(intro p hp;cases hp))) ?_ ?_
        · refine steps_of ?_
          refine steps_cons (step_on3 rfl rfl fun ev _ _ _ _ _ hold _ _ _ _ hK=>?_) ?_
          · have e4:ev (.tmp 4)=.pointer (some ⟨gb,0,none⟩):=hold 4 (by kernel_rfl)
            go_simp
            exact hK _ _ (kstep_grow (Below.refl _ _)) rfl
          refine steps_cons (step_on3 rfl rfl fun ev _ _ _ _ _ hold _ _ _ _ hK=>?_) ?_
          · have e5:ev (.tmp 5)=.int .i64 (k:Int):=hold 5 (by kernel_rfl)
            go_simp
            exact hK _ _ (kstep_grow (Below.refl _ _)) rfl
          refine steps_cons (step_on3 rfl rfl fun _ _ _ _ _ _ _ hval _ _ _ hK=>?_) ?_
          · have e23:_=_:=hval 1 23 (by kernel_rfl) rfl
            go_simp
            exact hK _ _ (kstep_grow (Below.refl _ _)) (i64_eq (by first | rfl | omega))
          refine steps_cons (step_on3 rfl rfl fun _ _ _ _ _ _ _ hval _ _ _ hK=>?_) ?_
          · have e22:_=_:=hval 0 22 (by kernel_rfl) rfl
            go_simp
            exact hK _ _ (kstep_grow (Below.refl _ _)) rfl
          refine steps_cons (step_on3 rfl rfl fun _ _ _ _ _ _ _ hval _ _ _ hK=>?_) ?_
          · have e25:_=_:=hval 3 25 (by kernel_rfl) rfl
            go_simp
            exact hK _ _ (kstep_grow (Below.refl _ _)) rfl
          refine steps_cons (step_on3 rfl rfl fun _ _ _ _ _ _ _ hval _ _ _ hK=>?_) ?_
          · have e26:_=_:=hval 4 26 (by kernel_rfl) rfl
            have e24:_=_:=hval 2 24 (by kernel_rfl) rfl
            go_simp
            exact hK _ _ (kstep_grow (Below.refl _ _)) rfl
          refine steps_cons (step_on3 rfl rfl fun _ w5 _ hU _ _ _ hval _ _ _ hK=>?_) ?_
          · have hpre:=hU rfl
            have e27:_=_:=hval 5 27 (by kernel_rfl) rfl
            have c28:w5.cell? ⟨gb,1,none⟩=some (.int .u64 (W:Int)):=(hpre.cell 1).trans rfl
            go_simp
            exact hK _ _ (kstep_grow (Below.refl _ _)) rfl
          refine steps_cons (step_on3 rfl rfl fun ev _ _ _ _ _ hold _ _ _ _ hK=>?_) ?_
          · have e5:ev (.tmp 5)=.int .i64 (k:Int):=hold 5 (by kernel_rfl)
            go_simp
            exact hK _ _ (kstep_grow (Below.refl _ _)) rfl
          refine steps_cons (step_on3 rfl rfl fun _ _ _ _ _ _ _ hval _ _ _ hK=>?_) ?_
          · have e29:_=_:=hval 7 29 (by kernel_rfl) rfl
            go_simp
            exact hK _ _ (kstep_grow (Below.refl _ _)) (i64_eq (by first | rfl | omega))
          refine steps_cons (step_on3 rfl rfl fun _ _ _ _ _ _ _ hval _ _ _ hK=>?_) ?_
          · have e30:_=_:=hval 8 30 (by kernel_rfl) rfl
            go_simp
            exact hK _ _ (kstep_grow (Below.refl _ _)) (int_eq (by first | rfl | omega))
          refine steps_cons (step_on3 rfl rfl fun _ _ _ _ _ _ _ hval _ _ _ hK=>?_) ?_
          · have e31:_=_:=hval 9 31 (by kernel_rfl) rfl
            go_simp
            exact hK _ _ (kstep_grow (Below.refl _ _)) (int_eq (by first | exact HP.out | simpa using HP.out))
          refine steps_cons (step_on3 rfl rfl fun _ _ _ _ _ _ _ hval _ _ _ hK=>?_) ?_
          · have e28:_=_:=hval 6 28 (by kernel_rfl) rfl
            have e32:_=_:=hval 10 32 (by kernel_rfl) rfl
            go_simp
            exact hK _ _ (kstep_grow (Below.refl _ _)) (int_eq HW.out)
          refine steps_cons (step_on3 rfl rfl fun _ _ _ _ _ _ _ hval _ _ _ hK=>?_) ?_
          · have e22:_=_:=hval 0 22 (by kernel_rfl) rfl
            go_simp
            exact hK _ _ (kstep_grow (Below.refl _ _)) rfl
          refine steps_cons (step_on3 rfl rfl fun _ _ _ _ _ _ _ hval _ _ _ hK=>?_) ?_
          · have e34:_=_:=hval 12 34 (by kernel_rfl) rfl
            go_simp
            exact hK _ _ (kstep_grow (Below.refl _ _)) rfl
          refine steps_cons (step_on3 rfl rfl fun _ _ _ _ _ _ _ hval _ _ _ hK=>?_) ?_
          · have e35:_=_:=hval 13 35 (by kernel_rfl) rfl
            have e24:_=_:=hval 2 24 (by kernel_rfl) rfl
            go_simp
            exact hK _ _ (kstep_grow (Below.refl _ _)) rfl
          refine steps_cons (step_on3 rfl rfl fun _ w5 _ hU _ _ _ hval _ _ _ hK=>?_) ?_
          · have hpre:=hU rfl
            have e36:_=_:=hval 14 36 (by kernel_rfl) rfl
            have e33:_=_:=hval 11 33 (by kernel_rfl) rfl
            have c28:w5.cell? ⟨gb,1,none⟩=some (.int .u64 (W:Int)):=(hpre.cell 1).trans rfl
            have f28:=hpre.frozen 1
            go_simp
            exact hK (.bool true) _ (kstep_keep (Keep.setCell (F:=fun b=>b=gb) (Keep.refl _ _) (p:=⟨gb,1,none⟩) (.inl rfl) _)) (hpre.set 1 _)
          exact steps_nil
        · intro ev w6 hS hval hall
          replace hS:Keep (fun b=>b=gb) wr w6:=⟨hS.os,hS.tape,hS.output,hS.size,hS.block⟩
          obtain ⟨vJ,pJ⟩:∃v,(fun _ w1=>Bk w1 gb 146 #[.int .i64 (m:Int),.int .u64 (W2:Int),.int .u64 (Z:Int)]) v w6:=hall 15 (by decide)
          simp only [putsOf,List.foldl_cons,List.foldl_nil,Act.put,List.setIfInBounds_toArray,List.set_cons_zero,List.set_cons_succ]
          clear hval hall
          have hb6:Below w.heap.size w w6:=hb.trans (hS.to_below hsz (fun b hb h=>absurd (show b=gb from h) (by omega)))
          go_wp2
          go_roundw
          case rel=>exact ⟨k+1,by omega,by go_num,by rw [Hn2.out.1,Hn2.out.2];exact pJ,hb6⟩
          case measure=>simp [intOf];omega
      · obtain ⟨r,hr⟩:∃r:Nat,r=k - 64:=⟨_,rfl⟩
        have hq64:IntKind.i64.wrap ((k:Int)/ 64)=1:=by rw [IntKind.wrap_i64];omega
        have hm64:(k:Int).tmod 64=(r:Int):=by rw [Int.tmod_eq_emod_of_nonneg (by omega)];omega
        have hu64:IntKind.u64.wrap (r:Int)=(r:Int):=by rw [IntKind.wrap_u64];omega
        have hr64:r < 64:=by omega
        obtain ⟨P,hP⟩:∃P:Nat,P=2 ^ r:=⟨_,rfl⟩
        have hP64:P < 18446744073709551616:=by
         have:=Nat.pow_lt_pow_right (a:=2) (by decide) hr64
         omega
        obtain ⟨W,hW⟩:∃W:Nat,W=w1 (l.take k):=⟨_,rfl⟩
        obtain ⟨Z,hZ⟩:∃Z:Nat,Z=w0 (l.take k):=⟨_,rfl⟩
        obtain ⟨W2,hW2⟩:∃W2:Nat,W2=W+P:=⟨_,rfl⟩
        have hWs:W < P:=by
         have:=w1_small (l.take k)
         rw [hlk] at this
         rw [hW,hP,hr]
         exact this
        have hn:=w_snoc_hi (l.take k) true (by omega)
        rw [←htk,←hW,←hZ,hlk] at hn
        have hn2:w1 (l.take (k+1))=W2∧w0 (l.take (k+1))=Z:=⟨by rw [hn.2,hW2,hP,hr];rfl,hn.1⟩
        have hor:bits .or .u64 (W:Int) (P:Int)=(W2:Int):=by
         rw [or64 W P (by omega) hP64,hP,or_top W r (by rw [←hP];exact hWs),hW2,hP]
        have HW:=Lib.hid hor
        have hPP:IntKind.u64.wrap ((2:Int)^ r)=(P:Int):=by
         rw [hP,IntKind.wrap_u64]
         have e:((2:Int)^ r)=((2 ^ r:Nat):Int):=by push_cast;rfl
         rw [e,←hP]
         omega
        have HP:=Lib.hid hPP
        have Hn2:=Lib.hid hn2
        rw [←hW,←hZ] at hbk
        clear hor hPP hn hn2 hW hZ hW2 hP hWs htk hlk hx hr
        go_wp2
        refine wp_region_any (by kernel_rfl) ?_
        refine wpAny_keep [22,23,24,25,26,27,28,29,30,31,32,33,34,35,36] (fun b=>b=gb) 15 [6,15] (fun w1=>Bk w1 gb 146 #[.int .i64 (m:Int),.int .u64 (Z:Int),.int .u64 (W:Int)]) (fun _ w1=>Bk w1 gb 146 #[.int .i64 (m:Int),.int .u64 (Z:Int),.int .u64 (W2:Int)]) [is (.pointer (some ⟨gb,0,none⟩)),is (.int .i64 (k:Int)),is (.int .i64 1),is (.pointer (some ⟨gb,0,none⟩)),is (.pointer (some ⟨gb,1,none⟩)),is (.pointer (some ⟨gb,2,none⟩)),is (.int .u64 (W:Int)),is (.int .i64 (k:Int)),is (.int .i64 (r:Int)),is (.int .u64 (r:Int)),is (.int .u64 (P:Int)),is (.int .u64 (W2:Int)),is (.pointer (some ⟨gb,0,none⟩)),is (.pointer (some ⟨gb,1,none⟩)),is (.pointer (some ⟨gb,2,none⟩)),anyV] _ _ rfl (by kernel_rfl) (by kernel_rfl) (hbk) (fun w1 w2 h _ hg=>Bk.below h hg h.lt) (fun _ _ _ h k=>Bk.below h k h.lt) (by repeat' (first | exact stbk_is _ _ | exact stbk_any _ |(refine List.forall_mem_cons.2 ⟨?_,?_⟩)|(intro p hp;cases hp))) ?_ ?_
        · refine steps_of ?_
          refine steps_cons (step_on3 rfl rfl fun ev _ _ _ _ _ hold _ _ _ _ hK=>?_) ?_
          · have e4:ev (.tmp 4)=.pointer (some ⟨gb,0,none⟩):=hold 4 (by kernel_rfl)
            go_simp
            exact hK _ _ (kstep_grow (Below.refl _ _)) rfl
          refine steps_cons (step_on3 rfl rfl fun ev _ _ _ _ _ hold _ _ _ _ hK=>?_) ?_
          · have e5:ev (.tmp 5)=.int .i64 (k:Int):=hold 5 (by kernel_rfl)
            go_simp
            exact hK _ _ (kstep_grow (Below.refl _ _)) rfl
          refine steps_cons (step_on3 rfl rfl fun _ _ _ _ _ _ _ hval _ _ _ hK=>?_) ?_
          · have e23:_=_:=hval 1 23 (by kernel_rfl) rfl
            go_simp
            exact hK _ _ (kstep_grow (Below.refl _ _)) (i64_eq (by first | rfl | omega))
          refine steps_cons (step_on3 rfl rfl fun _ _ _ _ _ _ _ hval _ _ _ hK=>?_) ?_
          · have e22:_=_:=hval 0 22 (by kernel_rfl) rfl
            go_simp
            exact hK _ _ (kstep_grow (Below.refl _ _)) rfl
          refine steps_cons (step_on3 rfl rfl fun _ _ _ _ _ _ _ hval _ _ _ hK=>?_) ?_
          · have e25:_=_:=hval 3 25 (by kernel_rfl) rfl
            go_simp
            exact hK _ _ (kstep_grow (Below.refl _ _)) rfl
          refine steps_cons (step_on3 rfl rfl fun _ _ _ _ _ _ _ hval _ _ _ hK=>?_) ?_
          · have e26:_=_:=hval 4 26 (by kernel_rfl) rfl
            have e24:_=_:=hval 2 24 (by kernel_rfl) rfl
            go_simp
            exact hK _ _ (kstep_grow (Below.refl _ _)) rfl
          refine steps_cons (step_on3 rfl rfl fun _ w5 _ hU _ _ _ hval _ _ _ hK=>?_) ?_
          · have hpre:=hU rfl
            have e27:_=_:=hval 5 27 (by kernel_rfl) rfl
            have c28:w5.cell? ⟨gb,2,none⟩=some (.int .u64 (W:Int)):=(hpre.cell 2).trans rfl
            go_simp
            exact hK _ _ (kstep_grow (Below.refl _ _)) rfl
          refine steps_cons (step_on3 rfl rfl fun ev _ _ _ _ _ hold _ _ _ _ hK=>?_) ?_
          · have e5:ev (.tmp 5)=.int .i64 (k:Int):=hold 5 (by kernel_rfl)
            go_simp
            exact hK _ _ (kstep_grow (Below.refl _ _)) rfl
          refine steps_cons (step_on3 rfl rfl fun _ _ _ _ _ _ _ hval _ _ _ hK=>?_) ?_
          · have e29:_=_:=hval 7 29 (by kernel_rfl) rfl
            go_simp
            exact hK _ _ (kstep_grow (Below.refl _ _)) (i64_eq (by first | rfl | omega))
          refine steps_cons (step_on3 rfl rfl fun _ _ _ _ _ _ _ hval _ _ _ hK=>?_) ?_
          · have e30:_=_:=hval 8 30 (by kernel_rfl) rfl
            go_simp
            exact hK _ _ (kstep_grow (Below.refl _ _)) (int_eq (by first | rfl | omega))
          refine steps_cons (step_on3 rfl rfl fun _ _ _ _ _ _ _ hval _ _ _ hK=>?_) ?_
          · have e31:_=_:=hval 9 31 (by kernel_rfl) rfl
            go_simp
            exact hK _ _ (kstep_grow (Below.refl _ _)) (int_eq (by first | exact HP.out | simpa using HP.out))
          refine steps_cons (step_on3 rfl rfl fun _ _ _ _ _ _ _ hval _ _ _ hK=>?_) ?_
          · have e28:_=_:=hval 6 28 (by kernel_rfl) rfl
            have e32:_=_:=hval 10 32 (by kernel_rfl) rfl
            go_simp
            exact hK _ _ (kstep_grow (Below.refl _ _)) (int_eq HW.out)
          refine steps_cons (step_on3 rfl rfl fun _ _ _ _ _ _ _ hval _ _ _ hK=>?_) ?_
          · have e22:_=_:=hval 0 22 (by kernel_rfl) rfl
            go_simp
            exact hK _ _ (kstep_grow (Below.refl _ _)) rfl
          refine steps_cons (step_on3 rfl rfl fun _ _ _ _ _ _ _ hval _ _ _ hK=>?_) ?_
          · have e34:_=_:=hval 12 34 (by kernel_rfl) rfl
            go_simp
            exact hK _ _ (kstep_grow (Below.refl _ _)) rfl
          refine steps_cons (step_on3 rfl rfl fun _ _ _ _ _ _ _ hval _ _ _ hK=>?_) ?_
          · have e35:_=_:=hval 13 35 (by kernel_rfl) rfl
            have e24:_=_:=hval 2 24 (by kernel_rfl) rfl
            go_simp
            exact hK _ _ (kstep_grow (Below.refl _ _)) rfl
          refine steps_cons (step_on3 rfl rfl fun _ w5 _ hU _ _ _ hval _ _ _ hK=>?_) ?_
          · have hpre:=hU rfl
            have e36:_=_:=hval 14 36 (by kernel_rfl) rfl
            have e33:_=_:=hval 11 33 (by kernel_rfl) rfl
            have c28:w5.cell? ⟨gb,2,none⟩=some (.int .u64 (W:Int)):=(hpre.cell 2).trans rfl
            have f28:=hpre.frozen 2
            go_simp
            exact hK (.bool true) _ (kstep_keep (Keep.setCell (F:=fun b=>b=gb) (Keep.refl _ _) (p:=⟨gb,2,none⟩) (.inl rfl) _)) (hpre.set 2 _)
          exact steps_nil
        · intro ev w6 hS hval hall
          replace hS:Keep (fun b=>b=gb) wr w6:=⟨hS.os,hS.tape,hS.output,hS.size,hS.block⟩
          obtain ⟨vJ,pJ⟩:∃v,(fun _ w1=>Bk w1 gb 146 #[.int .i64 (m:Int),.int .u64 (Z:Int),.int .u64 (W2:Int)]) v w6:=hall 15 (by decide)
          simp only [putsOf,List.foldl_cons,List.foldl_nil,Act.put,List.setIfInBounds_toArray,List.set_cons_zero,List.set_cons_succ]
          clear hval hall
          have hb6:Below w.heap.size w w6:=hb.trans (hS.to_below hsz (fun b hb h=>absurd (show b=gb from h) (by omega)))
          go_wp2
          go_roundw
          case rel=>exact ⟨k+1,by omega,by go_num,by rw [Hn2.out.1,Hn2.out.2];exact pJ,hb6⟩
          case measure=>simp [intOf];omega
  · have hge:m≤k:=by omega
    have htk:l.take k=l:=List.take_of_length_le (by have:=Hll.out;omega)
    rw [htk] at hbk
    have hfin:Bk wr gb 146 (blkC l):=by
        unfold blkC
        rw [Hll.out]
        exact hbk
    clear htk hbk
    go_wp2
    go_ret2
    rw [hgb] at hb⊢
    exact ⟨rfl,hfin,hb⟩
set_option maxRecDepth 100000 in
theorem BlockLen_any (gb:Nat) (l:List Bool) (w:World) (hb:Bk w gb 146 (blkC l)):
 Calls Tryz.prog 150 #[.pointer (some ⟨gb,0,none⟩)] w fun e w'=>e=.returned (.int .i64 (l.length:Int))∧w=w':=by
 have c0:w.cell? ⟨gb,0,none⟩=some (.int .i64 (l.length:Int)):=(hb.cell 0).trans rfl
 go_enter Tryz.func150,Tryz.ntmps150
 go_wp2
 go_ret
 exact ⟨rfl,rfl⟩
theorem blk_rd {w:World} {gb:Nat} {l:List Bool} (hb:Bk w gb 146 (blkC l)):Rd w w.heap.size 1 (some ⟨gb,1,none⟩) 2 ([w0 l,w1 l].map uvn):=by
 refine ⟨rfl,fun _=>⟨gb,1,rfl,hb.lt,fun j u hu=>?_⟩⟩
 rw [hb.cell]
 rcases j with _ | _ | j
 · exact hu
 · exact hu
 · simp at hu
set_option maxRecDepth 100000 in
theorem BlockOnes_any (gb:Nat) (l:List Bool) (w:World) (hb:Bk w gb 146 (blkC l)) (hl:l.length≤128):
 Calls Tryz.prog 166 #[.pointer (some ⟨gb,0,none⟩)] w fun e w'=>e=.returned (.int .i64 ((l.count true:Nat):Int))∧w=w':=by
 have hsum:(([w0 l,w1 l].map fun x=>ones x 64).sum)=l.count true:=by
  rw [←w_ones l hl]
  simp
 go_enter Tryz.func166,Tryz.ntmps166
 go_wp2_with fail
 refine (Count_any _ 2 2 _ [w0 l,w1 l] _ (blk_rd hb) (by intro n hn;simp at hn;rcases hn with rfl | rfl;exact w0_lt l;exact w1_lt l hl) (by omega)).mono ?_
 rintro e w' ⟨rfl,rfl⟩
 rw [hsum]
 go_wp2
 go_ret
 exact ⟨rfl,rfl⟩
theorem ix0 (a b:Int) (w:World):(Instr.index 144 (.agg #[.int .u64 a,.int .u64 b]) (.int .i64 0)).run Tryz.prog w=.ok (.int .u64 a) w:=by kernel_rfl
theorem ix1 (a b:Int) (w:World):(Instr.index 144 (.agg #[.int .u64 a,.int .u64 b]) (.int .i64 1)).run Tryz.prog w=.ok (.int .u64 b) w:=by kernel_rfl
set_option maxRecDepth 100000 in
set_option maxHeartbeats 2000000 in
theorem BlockRank_any (gb:Nat) (l:List Bool) (k:Nat) (w:World) (hb:Bk w gb 146 (blkC l)) (hl:l.length≤128) (hk:k≤l.length):
 Calls Tryz.prog 129 #[.pointer (some ⟨gb,0,none⟩),.int .i64 (k:Int)] w fun e w'=>e=.returned (.int .i64 (((l.take k).count true:Nat):Int))∧Below w.heap.size w w':=by
 have hfin:=w_rank l k hl hk
 obtain ⟨n,hn⟩:∃n,l.length=n:=⟨_,rfl⟩
 obtain ⟨u0,hu0⟩:∃u,w0 l=u:=⟨_,rfl⟩
 obtain ⟨u1,hu1⟩:∃u,w1 l=u:=⟨_,rfl⟩
 have b0:u0 < 18446744073709551616:=by rw [←hu0];exact w0_lt l
 have b1:u1 < 18446744073709551616:=by rw [←hu1];exact w1_lt l hl
 have r0:rankN u0 (k:Int)=ones u0 (min k 64):=by unfold rankN;rw [Int.toNat_natCast]
 have r1:rankN u1 ((k:Int) - 64)=ones u1 (min (k - 64) 64):=by unfold rankN;congr 2;omega
 rw [hu0,hu1] at hfin
 have l0:=ones_le u0 (min k 64)
 have l1:=ones_le u1 (min (k - 64) 64)
 have c0:w.cell? ⟨gb,0,none⟩=some (.int .i64 (n:Int)):=by rw [←hn];exact (hb.cell 0).trans rfl
 have c1:w.cell? ⟨gb,1,none⟩=some (.int .u64 (u0:Int)):=by rw [←hu0];exact (hb.cell 1).trans rfl
 have c2:w.cell? ⟨gb,2,none⟩=some (.int .u64 (u1:Int)):=by rw [←hu1];exact (hb.cell 2).trans rfl
 have hlt:=hb.lt
 have hkn:k≤n:=by omega
 have hn128:n≤128:=by omega
 have m1:max (k:Int) 0=(k:Int):=by omega
 have m2:min (k:Int) (n:Int)=(k:Int):=by omega
 have Hfin:=Lib.hid hfin
 have R0:=Lib.hid r0
 have k0:=ix0
 have k1:=ix1
 have R1:=Lib.hid r1
 clear hb hfin hu0 hu1 hn hk r0 r1
 go_enter Tryz.func129,Tryz.ntmps129
 go_wp2_with fail
 go_loopw [5,14] (fun v i wr=>∃j:Nat,j≤2∧i=.int .i64 j∧v=.int .i64 (((if j=0 then 0 else if j=1 then ones u0 (min k 64) else (l.take k).count true):Nat):Int)∧Below w.heap.size w wr) (fun _ i _=>2 -(intOf i).toNat)
 case atStart=>exact ⟨0,by omega,rfl,rfl,Below.refl _ _⟩
 case round=>
  obtain ⟨j,hj,rfl,rfl,hb⟩:=hrel
  have hsz:=hb.size
  have d0:wr.cell? ⟨gb,0,none⟩=some (.int .i64 (n:Int)):=(hb.cell hlt).trans c0
  rcases j with _ | _ | _ | j
  · clear c1 c2
    simp only [if_true]
    go_wp2_with fail
    refine (BitsRank_any u0 (k:Int) b0 (by omega) _).mono ?_
    rintro e w' ⟨rfl,hb'⟩
    rw [R0.out]
    have hB:=hb.trans (hb'.mono hsz)
    go_wp2_with fail
    go_roundw
    case rel=>exact ⟨1,by omega,by go_num,by simp,hB⟩
    case measure=>simp [intOf]
  · clear c1 c2
    simp only [Nat.zero_add,Nat.one_ne_zero,if_false,if_true]
    go_wp2_with fail
    refine (BitsRank_any u1 ((k:Int) - 64) b1 (by omega) _).mono ?_
    rintro e w' ⟨rfl,hb'⟩
    rw [R1.out]
    have hB:=hb.trans (hb'.mono hsz)
    have hsum:(((ones u0 (min k 64):Nat):Int)+((ones u1 (min (k - 64) 64):Nat):Int))=(((l.take k).count true:Nat):Int):=by rw [←Hfin.out];push_cast;rfl
    go_wp2_with fail
    go_roundw
    case rel=>exact ⟨2,by omega,by go_num,by first | rfl |(simp;done)| exact i64_eq (by simpa using hsum),hB⟩
    case measure=>simp [intOf]
  · simp only [show ¬(0+1+1=0) by omega,show ¬(0+1+1=1) by omega,if_false]
    go_wp2
    go_ret
    exact ⟨rfl,hb⟩
  · omega
end Go.Proofs.YtipaccakmndkgaaGreat
