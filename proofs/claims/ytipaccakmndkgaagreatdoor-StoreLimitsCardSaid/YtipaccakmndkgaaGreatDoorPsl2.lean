/- The walk of num.Put: it lays the numbers' bytes, one behind the other, into new memory. Condition: at most 100000 numbers. Where bytes stand in others (plain). No conditions. The contract of slices.Sort at integers: on no slice at all, and on a row of the call's own. Conditions: none. Behind a region of 'wpAny_loose' the frame is the old one with the operations' slots put anew. No conditions. Clearing the lowest ones of a word, and where a one stands (plain Lean). No conditions. Lists with an element let in or out (plain Lean). No conditions. The plain laws of runs: what run.Of, run.All, run.Put, run.Get compute, on lists. No program in sight. -/
import Derived.Test.YtipaccakmndkgaaGreatDoorPsl0
import Derived.Test.YtipaccakmndkgaaGreatDoorShs
import Derived.Test.YtipaccakmndkgaaGreatDoorShl
import Derived.Sort.OwnSortedInts
import Derived.Shelf.Sort.Plain
import Derived.Test.YtipaccakmndkgaaGreatDoorPsl1
import Derived.Lib.TrailingZeros
set_option linter.unusedVariables false
set_option linter.unusedSimpArgs false
set_option maxRecDepth 100000
set_option maxHeartbeats 1000000
namespace Go.Proofs.YtipaccakmndkgaaGreatDoor
open Go.RowKit
theorem num_u8_info:(Tryz.prog.info? 5).map (fun i=>(i.zero,i.size,i.bytes))=some (some (.int .u8 0),1,1):=by kernel_rfl
def uv (n:Nat):Value:=.int .u64 (n:Int)
theorem or128 (N:Nat):bits .or .u8 ((N:Int)% 256) 128=((N % 128+128:Nat):Int):=by
 have key:∀a:Fin 256,bits .or .u8 ((a.val:Nat):Int) 128=((a.val % 128+128:Nat):Int):=by decide+kernel
 have:=key ⟨N % 256,by omega⟩
 simp only at this
 rw [show ((N:Int)% 256)=((N % 256:Nat):Int) by omega,this]
 omega
theorem and127 (N:Nat):bits .and .u8 ((N:Int)% 256) 127=((N % 128:Nat):Int):=by
 have key:∀a:Fin 256,bits .and .u8 ((a.val:Nat):Int) 127=((a.val % 128:Nat):Int):=by decide+kernel
 have:=key ⟨N % 256,by omega⟩
 simp only at this
 rw [show ((N:Int)% 256)=((N % 256:Nat):Int) by omega,this]
 omega
theorem bv_or (n e:Nat):Value.int .u8 (bits .or .u8 ((n:Int)/ 2 ^ e % 256) 128)=bv (UInt8.ofNat (n / 2 ^ e % 128+128)):=by
 have:((n:Int)/ 2 ^ e)=((n / 2 ^ e:Nat):Int):=by push_cast;rfl
 rw [this,or128]
 unfold bv
 congr 1
 simp [UInt8.toNat_ofNat']
 omega
theorem bv_and (n:Nat):Value.int .u8 (bits .and .u8 ((n:Int)% 256) 127)=bv (UInt8.ofNat (n % 128)):=by
 rw [and127]
 unfold bv
 congr 1
 simp [UInt8.toNat_ofNat']
 omega
theorem Put_own (A:Option Addr) (m c:Nat) (l:List Nat) (w:World) (hr:Rd w w.heap.size 1 A m (l.map uv)) (hl:∀n∈l,n < 18446744073709551616) (hm:m≤100000):
 Calls Tryz.prog 74 #[.slice A m c] w fun e w'=>∃v k,e=.returned v∧w'.ownsRow w.heap.size 5 1 v k ((encAll l).map bv)∧Below w.heap.size w w':=by
 obtain ⟨i0,hi0,hz0,hz1,hz2⟩:=info_parts num_u8_info
 have Hr:=lhd hr
 have Hl:=lhd hl
 have hlen:=hr.1
 have Hlen:=lhd hlen
 clear hr hl hlen
 go_enter Tryz.func74,Tryz.ntmps74
 go_wp2
 go_loopw [3,9] (fun v i wr=>∃k q:Nat,k≤m∧i=.int .i64 k∧wr.ownsRow w.heap.size 5 1 v q ((encAll (l.take k)).map bv)∧Below w.heap.size w wr) (fun _ i _=>m -(intOf i).toNat)
 case atStart=>exact ⟨0,0,Nat.zero_le _,rfl,World.ownsRow_nil _ _ _ _,Below.refl _ _⟩
 case round=>
  obtain ⟨k,q,hk,rfl,hown,hb⟩:=hrel
  by_cases hlt:k < m
  · have hx:∃n,l[k]?=some n:=by
        have:=Hlen.out
        simp at this
        exact ⟨l[k]'(by omega),List.getElem?_eq_getElem (by omega)⟩
    obtain ⟨n,hn⟩:=hx
    obtain ⟨b,off,u,rfl,hbl,hu,hc⟩:=(Hr.out.below hb).get hlt
    rw [List.getElem?_map,hn] at hu
    simp at hu
    subst hu
    unfold uv at hc
    have hn64:n < 18446744073709551616:=Hl.out n (List.mem_of_getElem? hn)
    have Hn:=lhd hn
    have H64:=lhd hn64
    clear hn hn64
    go_wp2
    go_loop [6] (fun s=>∃j:Nat,j≤9∧s=.int .i64 (7*(j:Int))∧(j=0∨1≤n / 2 ^(7*j))) (fun s=>100 -(intOf s).toNat)
    case atStart=>exact ⟨0,by omega,rfl,.inl rfl⟩
    case round=>
        obtain ⟨j,hj,rfl,hge⟩:=hrel
        go_wp2
        · have hbig:(128:Int)≤(n:Int)/ 2 ^(7*j):=by assumption
          have hbig':128≤n / 2 ^(7*j):=by exact_mod_cast hbig
          have hj1:=shift_top n j H64.out hj hbig'
          refine ⟨⟨j+1,hj1,by go_num,.inr (by rw [div7];omega)⟩,by simp [intOf];omega⟩
        · have hsm:(n:Int)/ 2 ^(7*j) < 128:=by assumption
          have hsm':n / 2 ^(7*j) < 128:=by exact_mod_cast hsm
          go_loopw [3,6] (fun v s wr'=>∃j' q':Nat,j'≤j∧s=.int .i64 (7*(j':Int))∧wr'.ownsRow w.heap.size 5 1 v q' ((encAll (l.take k)++preB 10 (n / 2 ^(7*(j'+1)))).map bv)∧Below w.heap.size w wr') (fun _ s _=>(intOf s).toNat)
          case atStart=>exact ⟨j,q,Nat.le_refl _,rfl,by rw [div7,Nat.div_eq_of_lt hsm'];simpa [preB_zero] using hown,hb⟩
          case round=>
           obtain ⟨j',q',hj',rfl,hown',hb'⟩:=hrel
           have hb2:=hb'.size
           have hq:q'≤1100010:=by
            have h1:=hown'.1
            have h2:=encAll_len (l.take k)
            have h3:=preB_len 10 (n / 2 ^(7*(j'+1)))
            simp at h1 h2
            omega
           by_cases h0:j'=0
           · subst h0
             go_wp2_with (at_builtin;refine wpList_push _ rfl (.tmp 33) (.tmp 37) _ rfl w.heap.size 5 i0 (.int .u8 0) 1 1 Tryz.underlying23 hi0 hz0 hz1 hz2 rfl (by decide) u3 q' _ rfl hown' rfl rfl (by simp [Value.oneCell']) (by unfold maxLen;omega) (by omega) hb2 ?_;intro v2 w2 hown2 hg2 hs2 hat2)
             have hb3:=below_grown hb' hown' hg2 hb2
             clear hg2 hat2
             go_roundw
             case rel=>
              refine ⟨k+1,q'+1,by omega,by go_num,?_,hb3⟩
              rw [encAll_snoc l k n Hn.out]
              rw [bv_and] at hown2
              simpa [encB] using hown2
             case measure=>simp [intOf];omega
           · go_wp2_with (at_builtin;refine wpList_push _ rfl (.tmp 24) (.tmp 31) _ rfl w.heap.size 5 i0 (.int .u8 0) 1 1 Tryz.underlying23 hi0 hz0 hz1 hz2 rfl (by decide) u3 q' _ rfl hown' rfl rfl (by simp [Value.oneCell']) (by unfold maxLen;omega) (by omega) hb2 ?_;intro v2 w2 hown2 hg2 hs2 hat2)
             have hb3:=below_grown hb' hown' hg2 hb2
             refine ⟨⟨j' - 1,q'+1,by omega,i64_eq (by omega),?_,hb3⟩,by simp [intOf];omega⟩
             rw [bv_or] at hown2
             obtain ⟨i,rfl⟩:∃i,j'=i+1:=⟨j' - 1,by omega⟩
             rw [Nat.add_sub_cancel,preB_step (n / 2 ^(7*(i+1))),←div7]
             · simpa using hown2
             · exact mid_pos n i j hj' hge
             · exact Nat.lt_of_lt_of_le (mid_lt n i H64.out) (by decide)
  · have hkm:k=m:=by omega
    subst hkm
    go_wp2
    go_ret
    refine ⟨u3,q,rfl,?_,hb⟩
    have:l.take k=l:=List.take_of_length_le (by have:=Hlen.out;simp at this;omega)
    rw [this] at hown
    exact hown
theorem Put_any (A:Option Addr) (m c B:Nat) (l:List Nat) (w:World) (hr:Rd w B 1 A m (l.map uv)) (hB:B≤w.heap.size) (hl:∀n∈l,n < 18446744073709551616) (hm:m≤100000):
 Calls Tryz.prog 74 #[.slice A m c] w fun e w'=>∃A' c',e=.returned (.slice A' (encAll l).length c')∧Made w' w.heap.size 5 1 A' (encAll l).length c' ((encAll l).map bv)∧Below w.heap.size w w':=by
 refine (Put_own A m c l w (hr.mono hB) hl hm).mono fun e w' ⟨v,k,he,ho,hb⟩=>?_
 have hk:(encAll l).length=k:=by simpa using ho.1
 subst hk
 obtain ⟨A',c',rfl,hm⟩:=made_of_own ho
 exact ⟨A',c',he,hm,hb⟩
theorem Put_is (A:Option Addr) (m c B:Nat) (l:List Nat) (w:World) (bs:List UInt8) (k:Nat) (he:encAll l=bs) (hk:bs.length=k) (hr:Rd w B 1 A m (l.map uv)) (hB:B≤w.heap.size) (hl:∀n∈l,n < 18446744073709551616) (hm:m≤100000):
 Calls Tryz.prog 74 #[.slice A m c] w fun e w'=>∃A' c',e=.returned (.slice A' k c')∧Made w' w.heap.size 5 1 A' k c' (bs.map bv)∧Below w.heap.size w w':=by
 subst he
 subst hk
 exact Put_any A m c B l w hr hB hl hm
def findTo (T D:List UInt8) (k:Nat):List Nat:=(List.range k).filter fun i=>D.isPrefixOf (T.drop i)
def findB (T D:List UInt8):List Nat:=findTo T D (T.length+1 - D.length)
def nv (i:Nat):Value:=iv (i:Int)
theorem findTo_no (T D:List UInt8) (k:Nat) (h:D.isPrefixOf (T.drop k)=false):findTo T D (k+1)=findTo T D k:=by
 simp [findTo,List.range_succ,List.filter_append,h]
theorem InsNil_any (w:World):Calls Tryz.prog 249 #[.slice none 0 0,.int .i64 0,.int .i64 0] w fun e w'=>e=.returned (.tuple #[])∧w'=w:=by
 go_enter Tryz.func249,Tryz.ntmps249
 go_wp2_with fail
 go_loopw [6] (fun x wr=>x=.int .i64 1∧wr=w) (fun _ _=>0)
 case atStart=>exact ⟨rfl,rfl⟩
 case round=>
  obtain ⟨rfl,rfl⟩:=hrel
  go_wp2_with fail
  go_end0
  exact ⟨rfl,rfl⟩
theorem PdqNil_any (l:Int) (w:World):Calls Tryz.prog 220 #[.slice none 0 0,.int .i64 0,.int .i64 0,.int .i64 l] w fun e w'=>e=.returned (.tuple #[])∧w'=w:=by
 go_enter Tryz.func220,Tryz.ntmps220
 go_wp2_with fail
 go_loopw [1,2] (fun x y wr=>x=.int .i64 0∧y=.int .i64 0∧wr=w) (fun _ _ _=>0)
 case atStart=>exact ⟨rfl,rfl,rfl⟩
 case round=>
  obtain ⟨rfl,rfl,rfl⟩:=hrel
  go_wp2_with fail
  refine (InsNil_any wr).mono ?_
  rintro e w1 ⟨rfl,rfl⟩
  go_wp2_with fail
  exact bodyPost_ret (results_none rfl _ _ _) rfl ⟨rfl,rfl⟩
theorem SortNil_any (w:World):Calls Tryz.prog 172 #[.slice none 0 0] w fun e w'=>e=.returned (.tuple #[])∧w'=w:=by
 have hlen:Calls Tryz.prog 182 #[.int .u64 0] w fun e w'=>e=.returned (.int .i64 (Lib.bitLen (0:Int).toNat))∧w'=w:=calls_of_every_depth fun D=>AnyS.bits_LenIn shLen D 0 w (by omega) (by omega)
 go_enter Tryz.func172,Tryz.ntmps172
 go_wp2_with fail
 refine hlen.mono ?_
 rintro e w1 ⟨rfl,rfl⟩
 go_wp2_with fail
 refine (PdqNil_any _ w1).mono ?_
 rintro e w2 ⟨rfl,rfl⟩
 go_wp2_with fail
 go_end0
 exact ⟨rfl,rfl⟩
theorem SortOwn_any (base:Nat) (v:Value) (n:Nat) (zs:List Int) (w:World) (h:w.ownsRow base 3 1 v n (zs.map (Value.int .i64))) (hn:zs.length=n) (hn2:n≤1000):
 ∃A c,v=.slice A n c∧Calls Tryz.prog 172 #[.slice A n c] w fun e w'=>e=.returned (.tuple #[])∧w'.ownsRow base 3 1 (.slice A n c) n ((zs.mergeSort fun x y=>decide (x≤y)).map (Value.int .i64))∧Keep (fun b=>(Value.slice A n c).ownBlock=some b) w w':=by
 subst hn
 rcases h.2 with ⟨h1,h2⟩|⟨g,cap,cur,h1,hb,hg,hnc,hm,hsz,htk⟩
 · subst h1
   refine ⟨none,0,by rw [h2],?_⟩
   have hz:zs= []:=List.eq_nil_of_length_eq_zero h2
   subst hz
   refine (SortNil_any w).mono ?_
   rintro e w' ⟨rfl,rfl⟩
   exact ⟨rfl,by simpa using h,Keep.refl _ _⟩
 · subst h1
   refine ⟨_,cap,rfl,?_⟩
   have hgl:g < w.heap.size:=(Array.getElem?_eq_some_iff.1 hg).1
   have hH:Sort.Holds (Value.int .i64) w g 0 zs.toArray:=holds_of_blockI hg (by rw [←htk];simp)
   refine (Any.slices_Sort_int shSrt g 0 cap zs w hH hgl (by omega)).mono ?_
   rintro e w' ⟨rfl,k,os,rfl⟩
   have hgr:=grownBy_sortedI (w:=w) (g:=g) (n:=k) (os:=os) (zs.mergeSort fun x y=>decide (x≤y)).toArray
   refine ⟨rfl,ownsRow_sortedI (by simp) hb hg hnc hm hsz,⟨hgr.os,hgr.tape,hgr.output,hgr.size,fun b hb hne=>hgr.block b hb (fun e=>hne e.symm)⟩⟩
end Go.Proofs.YtipaccakmndkgaaGreatDoor
namespace Go.Proofs.YtipaccakmndkgaaGreatDoor
open Go.RowKit Go
def putsOf (ev:Operand→Value) (ds:List Nat) (a0:Act):Act:=ds.foldl (fun x d=>x.put (some d) (ev (.tmp d))) a0
theorem puts_at (a:Act) (ds:List Nat) (a0:Act) (hsz:a.tmps.size=a0.tmps.size):
 (putsOf a.eval ds a0).tmps.size=a0.tmps.size∧(putsOf a.eval ds a0).defers=a0.defers∧
 ∀t,(putsOf a.eval ds a0).tmps.getD t undef=if t∈ds then a.tmps.getD t undef else a0.tmps.getD t undef:=by
 induction ds generalizing a0 with
 | nil=>exact ⟨rfl,rfl,fun t=>by simp [putsOf]⟩
 | cons d ds ih=>
   have h1:(a0.put (some d) (a.eval (.tmp d))).tmps.size=a0.tmps.size:=by simp [Act.put]
   obtain ⟨i1,i2,i3⟩:=ih (a0.put (some d) (a.eval (.tmp d))) (by rw [h1];exact hsz)
   refine ⟨i1.trans h1,i2,fun t=>?_⟩
   have h2:=i3 t
   change (putsOf a.eval ds (a0.put (some d) (a.eval (.tmp d)))).tmps.getD t undef=_
   rw [h2]
   by_cases ht:t∈ds
   · rw [if_pos ht,if_pos (List.mem_cons_of_mem _ ht)]
   · rw [if_neg ht]
     by_cases htd:t=d
     · subst htd
       rw [if_pos (List.mem_cons_self ..)]
       by_cases hlt:t < a0.tmps.size
       · simp [Act.put,Array.getD_eq_getD_getElem?,hlt,Act.eval]
       · have hlt2:¬t < a.tmps.size:=by omega
         simp [Act.put,Array.getD_eq_getD_getElem?,hlt,hlt2]
     · rw [if_neg (by simp [htd,ht])]
       have:d≠t:=fun h=>htd h.symm
       simp [Act.put,Array.getD_eq_getD_getElem?,this]
theorem act_puts (a a0:Act) (ds:List Nat) (hsz:a.tmps.size=a0.tmps.size) (hdf:a.defers=a0.defers) (h:∀t,t∉ds→a.tmps.getD t undef=a0.tmps.getD t undef):a=putsOf a.eval ds a0:=by
 obtain ⟨i1,i2,i3⟩:=puts_at a ds a0 hsz
 have key:a.tmps=(putsOf a.eval ds a0).tmps:=by
  apply Array.ext
  · rw [i1,hsz]
  · intro i h1 h2
    have:=i3 i
    have e1:(putsOf a.eval ds a0).tmps.getD i undef=(putsOf a.eval ds a0).tmps[i]:=by simp [Array.getD_eq_getD_getElem?,h2]
    have e2:a.tmps.getD i undef=a.tmps[i]:=by simp [Array.getD_eq_getD_getElem?,h1]
    rw [e1] at this
    rw [this]
    by_cases hi:i∈ds
    · rw [if_pos hi,e2]
    · rw [if_neg hi,←h i hi,e2]
 cases ha:a with
 | mk t d=>
   cases hp:putsOf a.eval ds a0 with
   | mk t' d'=>
     rw [ha] at hp
     rw [hp]
     rw [ha,hp] at key
     rw [ha,hp] at i2
     rw [ha] at hdf
     simp only at key i2 hdf
     rw [key,hdf,i2]
section
variable {P : Program} {ops : Array Oper} {Q : Exit → Act → World → Prop} {md : Region.Mode}
theorem wpAny_loose2 (ds:List Nat) (S:World→World→Prop) (V:Nat→Value→World→Prop) (a0:Act) (W0:World)
 (hds:ops.toList.filterMap (·.dst)=ds)
 (hlaid:laidB md ops a0.tmps.size=true) (hrefl:S W0 W0) (htrans:∀w w',S W0 w→S w w'→S W0 w') (hstab:∀i v w w',V i v w→S w w'→V i v w')
 (hstep:∀j o,ops[j]?=some o→StepOk P ops Q md S V a0 W0 j o)
 (hend:∀(ev:Operand→Value) w,S W0 w→(∀i d,((ops[i]?).bind (·.dst))=some d→V i (ev (.tmp d)) w)→Q .normal (putsOf ev ds a0) w):
 wpAny P md ops Q ops.size (Array.replicate ops.size false) a0 W0:=by
 refine wpAny_loose S V a0 W0 hlaid hrefl htrans hstab hstep fun a w hS hsz hdf hold hval=>?_
 have h1:=hend a.eval w hS fun i d hd=>by
  cases ho:ops[i]? with
  | none=>rw [ho] at hd;cases hd
  | some o=>rw [ho] at hd;exact hval i o d ho hd
 rw [←act_puts a a0 ds hsz hdf fun t ht=>hold t fun k p hp hd=>ht ?_] at h1
 · exact h1
 · rw [←hds]
   exact List.mem_filterMap.2 ⟨p,Array.mem_toList_iff.2 (Array.mem_of_getElem? hp),hd⟩
end
end Go.Proofs.YtipaccakmndkgaaGreatDoor
namespace Go.Proofs.YtipaccakmndkgaaGreatDoor
def insN {α:Type} (l:List α) (k:Nat) (x:α):List α:=l.take k++x::l.drop k
def delN {α:Type} (l:List α) (k:Nat):List α:=l.take k++l.drop (k+1)
theorem insN_len {α:Type} (l:List α) {k:Nat} (x:α) (h:k≤l.length):(insN l k x).length=l.length+1:=by
 unfold insN
 rw [List.length_append,List.length_take,List.length_cons,List.length_drop]
 omega
theorem delN_len {α:Type} (l:List α) {k:Nat} (h:k < l.length):(delN l k).length+1=l.length:=by
 unfold delN
 rw [List.length_append,List.length_take,List.length_drop]
 omega
theorem insN_get {α:Type} (l:List α) {k:Nat} (x:α) (h:k≤l.length) (j:Nat):(insN l k x)[j]?=if j < k then l[j]? else if j=k then some x else l[j - 1]?:=by
 unfold insN
 have hl:(l.take k).length=k:=by rw [List.length_take];omega
 by_cases h1:j < k
 · rw [if_pos h1,List.getElem?_append_left (by omega),List.getElem?_take,if_pos h1]
 · rw [if_neg h1,List.getElem?_append_right (by omega),hl]
   by_cases h2:j=k
   · subst h2
     rw [if_pos rfl,Nat.sub_self]
     rfl
   · rw [if_neg h2]
     obtain ⟨d,rfl⟩:∃d,j=k+d+1:=⟨j - k - 1,by omega⟩
     rw [show k+d+1 - k=d+1 by omega,List.getElem?_cons_succ,List.getElem?_drop]
     congr 1
theorem delN_get {α:Type} (l:List α) {k:Nat} (h:k < l.length) (j:Nat):(delN l k)[j]?=if j < k then l[j]? else l[j+1]?:=by
 unfold delN
 have hl:(l.take k).length=k:=by rw [List.length_take];omega
 by_cases h1:j < k
 · rw [if_pos h1,List.getElem?_append_left (by omega),List.getElem?_take,if_pos h1]
 · rw [if_neg h1,List.getElem?_append_right (by omega),hl,List.getElem?_drop]
   congr 1
   omega
theorem insN_map {α β:Type} (f:α→β) (l:List α) (k:Nat) (x:α):(insN l k x).map f=insN (l.map f) k (f x):=by simp [insN]
theorem delN_map {α β:Type} (f:α→β) (l:List α) (k:Nat):(delN l k).map f=delN (l.map f) k:=by simp [delN]
theorem insN_perm {α:Type} (l:List α) (k:Nat) (x:α):(insN l k x).Perm (x::l):=by
 unfold insN
 exact (List.perm_middle).trans (by rw [List.take_append_drop])
theorem delN_perm {α:Type} {l:List α} {k:Nat} {x:α} (h:l[k]?=some x):(x::delN l k).Perm l:=by
 obtain ⟨hk,hx⟩:=List.getElem?_eq_some_iff.1 h
 have e:l=l.take k++x::l.drop (k+1):=by
  rw [←hx,←List.drop_eq_getElem_cons hk,List.take_append_drop]
 unfold delN
 exact (List.perm_middle.symm).trans (by rw [←e])
theorem insN_getD (l:List Bool) {k:Nat} (x:Bool) (h:k≤l.length) (j:Nat):(insN l k x).getD j false=if j < k then l.getD j false else if j=k then x else l.getD (j - 1) false:=by
 rw [List.getD_eq_getElem?_getD,insN_get l x h]
 split
 · rw [List.getD_eq_getElem?_getD]
 · split
   · rfl
   · rw [List.getD_eq_getElem?_getD]
theorem delN_getD (l:List Bool) {k:Nat} (h:k < l.length) (j:Nat):(delN l k).getD j false=if j < k then l.getD j false else l.getD (j+1) false:=by
 rw [List.getD_eq_getElem?_getD,delN_get l h]
 split
 · rw [List.getD_eq_getElem?_getD]
 · rw [List.getD_eq_getElem?_getD]
theorem take_getD (l:List Bool) (n j:Nat):(l.take n).getD j false=(decide (j < n)&&l.getD j false):=by
 rw [List.getD_eq_getElem?_getD,List.getElem?_take]
 by_cases h:j < n
 · rw [if_pos h,List.getD_eq_getElem?_getD];simp [h]
 · rw [if_neg h];simp [h]
theorem drop_getD (l:List Bool) (n j:Nat):(l.drop n).getD j false=l.getD (n+j) false:=by
 rw [List.getD_eq_getElem?_getD,List.getElem?_drop,List.getD_eq_getElem?_getD]
def runStep (r:List (Int×Nat)) (s:Int):List (Int×Nat):=
 match r.getLast? with
 | some (x,n)=>if x=s then r.dropLast++ [(x,n+1)] else r++ [(s,1)]
 | none=> [(s,1)]
def runsOf (l:List Int):List (Int×Nat):=l.foldl runStep []
theorem runsOf_snoc (l:List Int) (k:Nat) (s:Int) (h:l[k]?=some s):runsOf (l.take (k+1))=runStep (runsOf (l.take k)) s:=by
 have hk:k < l.length:=(List.getElem?_eq_some_iff.1 h).1
 rw [List.take_succ_eq_append_getElem hk,(List.getElem?_eq_some_iff.1 h).2]
 simp [runsOf,List.foldl_append]
theorem runStep_same (r:List (Int×Nat)) (x:Int) (n:Nat):runStep (r++ [(x,n)]) x=r++ [(x,n+1)]:=by simp [runStep]
theorem runStep_other (r:List (Int×Nat)) (x s:Int) (n:Nat) (h:x≠s):runStep (r++ [(x,n)]) s=r++ [(x,n)]++ [(s,1)]:=by simp [runStep,h]
theorem runStep_nil (s:Int):runStep [] s= [(s,1)]:=by simp [runStep]
theorem runStep_len (r:List (Int×Nat)) (s:Int):(runStep r s).length≤r.length+1∧r.length≤(runStep r s).length:=by
 rcases List.eq_nil_or_concat r with rfl |⟨q,⟨x,n⟩,rfl⟩
 · simp [runStep]
 · rw [List.concat_eq_append]
   by_cases h:x=s
   · subst h;rw [runStep_same];simp
   · rw [runStep_other _ _ _ _ h];simp
theorem runsOf_len (l:List Int):(runsOf l).length≤l.length:=by
 have key:∀(l:List Int) (r:List (Int×Nat)),(l.foldl runStep r).length≤r.length+l.length:=by
  intro l
  induction l with
  | nil=>intro r;simp
  | cons s l ih=>intro r;have:=ih (runStep r s);have h:=(runStep_len r s).1;simp only [List.foldl_cons,List.length_cons];omega
 have:=key l []
 simpa [runsOf] using this
def expand (r:List (Int×Nat)):List Int:=r.flatMap fun x=>List.replicate x.2 x.1
theorem expand_step (r:List (Int×Nat)) (s:Int):expand (runStep r s)=expand r++ [s]:=by
 rcases List.eq_nil_or_concat r with rfl |⟨q,⟨x,n⟩,rfl⟩
 · simp [runStep,expand]
 · rw [List.concat_eq_append]
   by_cases h:x=s
   · subst h
     rw [runStep_same]
     simp [expand,List.flatMap_append,List.replicate_succ']
   · rw [runStep_other _ _ _ _ h]
     simp [expand,List.flatMap_append]
theorem expand_runs (l:List Int):expand (runsOf l)=l:=by
 have key:∀(l:List Int) (r:List (Int×Nat)),expand (l.foldl runStep r)=expand r++l:=by
  intro l
  induction l with
  | nil=>intro r;simp
  | cons s l ih=>intro r;rw [List.foldl_cons,ih,expand_step];simp
 have:=key l []
 simpa [runsOf,expand] using this
def RunsOk (r:List (Int×Nat)):Prop:=(∀x∈r,1≤x.2)∧r.Pairwise (fun _ _=>True)∧∀i a b,r[i]?=some a→r[i+1]?=some b→a.1≠b.1
theorem runStep_ok (r:List (Int×Nat)) (s:Int) (h:RunsOk r):RunsOk (runStep r s):=by
 obtain ⟨h1,_,h2⟩:=h
 refine ⟨?_,List.pairwise_of_forall (by intros;trivial),?_⟩
 · rcases List.eq_nil_or_concat r with rfl |⟨q,⟨x,n⟩,rfl⟩
   · simp [runStep]
   · rw [List.concat_eq_append] at*
     by_cases hx:x=s
     · subst hx
       rw [runStep_same]
       intro y hy
       rcases List.mem_append.1 hy with hy | hy
       · exact h1 y (List.mem_append_left _ hy)
       · have:=List.mem_singleton.1 hy
         subst this
         simp
     · rw [runStep_other _ _ _ _ hx]
       intro y hy
       rcases List.mem_append.1 hy with hy | hy
       · exact h1 y hy
       · have:=List.mem_singleton.1 hy
         subst this
         simp
 · intro i a b ha hb
   rcases List.eq_nil_or_concat r with rfl |⟨q,⟨x,n⟩,rfl⟩
   · simp [runStep] at hb
   · rw [List.concat_eq_append] at*
     by_cases hx:x=s
     · subst hx
       rw [runStep_same] at ha hb
       have hi:i+1 < (q++ [(x,n+1)]).length:=(List.getElem?_eq_some_iff.1 hb).1
       simp at hi
       by_cases hl:i+1=q.length
       · rw [List.getElem?_append_right (by omega),hl] at hb
         simp at hb
         rw [List.getElem?_append_left (by omega)] at ha
         have:=h2 i a (x,n) (by rw [List.getElem?_append_left (by omega)];exact ha) (by rw [List.getElem?_append_right (by omega),hl];simp)
         rw [←hb]
         exact this
       · rw [List.getElem?_append_left (by omega)] at ha hb
         exact h2 i a b (by rw [List.getElem?_append_left (by omega)];exact ha) (by rw [List.getElem?_append_left (by omega)];exact hb)
     · rw [runStep_other _ _ _ _ hx] at ha hb
       have hi:i+1 < (q++ [(x,n)]++ [(s,1)]).length:=(List.getElem?_eq_some_iff.1 hb).1
       simp at hi
       by_cases hl:i=q.length
       · subst hl
         rw [List.getElem?_append_left (by simp)] at ha
         simp at ha
         rw [List.getElem?_append_right (by simp)] at hb
         simp at hb
         rw [←ha,←hb]
         exact hx
       · rw [List.getElem?_append_left (by simp;omega)] at ha hb
         exact h2 i a b ha hb
theorem runsOf_ok (l:List Int):RunsOk (runsOf l):=by
 have key:∀(l:List Int) (r:List (Int×Nat)),RunsOk r→RunsOk (l.foldl runStep r):=by
  intro l
  induction l with
  | nil=>intro r h;exact h
  | cons s l ih=>intro r h;exact ih _ (runStep_ok r s h)
 exact key l [] ⟨by simp,List.Pairwise.nil,by simp⟩
theorem expand_mem (r:List (Int×Nat)) (x:Int×Nat) (h:x∈r):x.2≤(expand r).length:=by
 induction r with
 | nil=>cases h
 | cons a r ih=>
   have e:expand (a::r)=List.replicate a.2 a.1++expand r:=by simp [expand]
   rw [e,List.length_append,List.length_replicate]
   rcases List.mem_cons.1 h with rfl | h
   · omega
   · have:=ih h;omega
theorem runsOf_mem (l:List Int) (x:Int×Nat) (h:x∈runsOf l):x.2≤l.length:=by
 have:=expand_mem _ x h
 rwa [expand_runs] at this
def symOk (s:Int):Prop:=0≤s∧s < 257
instance (s:Int):Decidable (symOk s):=inferInstanceAs (Decidable (_∧_))
def runByte (x:Int×Nat):List UInt8:=encB x.1.toNat++encB x.2
def runBytes (r:List (Int×Nat)):List UInt8:=encB r.length++r.flatMap runByte
def putRuns (l:List Int):Option (List UInt8):=if ∀x∈runsOf l,symOk x.1 then some (runBytes (runsOf l)) else none
theorem runByte_len (x:Int×Nat):(runByte x).length≤22:=by
 have:=encB_len x.1.toNat
 have:=encB_len x.2
 simp [runByte];omega
theorem runBytes_snoc (r:List (Int×Nat)) (k:Nat) (x:Int×Nat) (h:r[k]?=some x):(r.take (k+1)).flatMap runByte=(r.take k).flatMap runByte++runByte x:=by
 have hk:k < r.length:=(List.getElem?_eq_some_iff.1 h).1
 rw [List.take_succ_eq_append_getElem hk,(List.getElem?_eq_some_iff.1 h).2]
 simp [List.flatMap_append]
theorem flatRun_len (r:List (Int×Nat)):(r.flatMap runByte).length≤22*r.length:=by
 induction r with
 | nil=>simp
 | cons a r ih=>
   have:=runByte_len a
   rw [List.flatMap_cons,List.length_append,List.length_cons]
   omega
def runAt (b:List UInt8) (a:Nat):Option (Nat×Nat×Nat):=
 match getGo (b.drop a) true 0 a with
 | none=>none
 | some (s,to)=>
   match getGo (b.drop to) true 0 to with
   | none=>none
   | some (k,e)=>some (s,k,e)
def rgo (b:List UInt8) (mst:Nat):Nat→Nat→Nat→List Int→List Int×Int
 | 0,a,_,acc=>if a=b.length then (acc,0) else ([],4)
 | n+1,a,last,acc=>
   match runAt b a with
   | none=>([],4)
   | some (s,k,e)=>if 257≤s∨s=last∨k=0 then ([],4) else if mst - acc.length < k then ([],3) else rgo b mst n e s (acc++List.replicate k (s:Int))
def getRuns (b:List UInt8) (most:Int):List Int×Int:=
 match getGo b true 0 0 with
 | none=>([],4)
 | some (n,a)=>rgo b most.toNat n a 257 []
theorem getGo_le (l:List UInt8):∀first acc pos n e,getGo l first acc pos=some (n,e)→pos < e∧e≤pos+l.length∧n < 18446744073709551616:=by
 induction l with
 | nil=>intro first acc pos n e h;rw [getGo] at h;cases h
 | cons c r ih=>
   intro first acc pos n e h
   rw [getGo_cons] at h
   split at h
   · cases h
   · rename_i hc
     split at h
     · injection h with h
       injection h with h1 h2
       subst h1;subst h2
       have hacc:acc≤144115188075855871:=by
        rcases Nat.lt_or_ge 144115188075855871 acc with h | h
        · exact absurd (by simp [h]) hc
        · exact h
       refine ⟨by omega,by simp,by omega⟩
     · have:=ih _ _ _ _ _ h
       simp only [List.length_cons]
       omega
theorem getNB_some (b:List UInt8) (a n e:Nat) (ha:a≤b.length) (h:getGo (b.drop a) true 0 a=some (n,e)):getNB b (a:Int)=(n,(e:Int),0):=by
 rw [getNB,if_neg (by omega)]
 simp only [Int.toNat_natCast,h]
theorem getNB_none (b:List UInt8) (a:Nat) (ha:a≤b.length) (h:getGo (b.drop a) true 0 a=none):getNB b (a:Int)=(0,(a:Int),4):=by
 rw [getNB,if_neg (by omega)]
 simp only [Int.toNat_natCast,h]
theorem rgo_none (b:List UInt8) (mst n a last:Nat) (acc:List Int) (h:runAt b a=none):rgo b mst (n+1) a last acc=([],4):=by simp only [rgo,h]
theorem rgo_some (b:List UInt8) (mst n a last:Nat) (acc:List Int) (s k e:Nat) (h:runAt b a=some (s,k,e)):
 rgo b mst (n+1) a last acc=if 257≤s∨s=last∨k=0 then ([],4) else if mst - acc.length < k then ([],3) else rgo b mst n e s (acc++List.replicate k (s:Int)):=by simp only [rgo,h]
theorem runAt_none1 (b:List UInt8) (a:Nat) (h:getGo (b.drop a) true 0 a=none):runAt b a=none:=by simp only [runAt,h]
theorem runAt_none2 (b:List UInt8) (a s to:Nat) (h:getGo (b.drop a) true 0 a=some (s,to)) (h2:getGo (b.drop to) true 0 to=none):runAt b a=none:=by simp only [runAt,h,h2]
theorem runAt_some (b:List UInt8) (a s to k e:Nat) (h:getGo (b.drop a) true 0 a=some (s,to)) (h2:getGo (b.drop to) true 0 to=some (k,e)):runAt b a=some (s,k,e):=by simp only [runAt,h,h2]
end Go.Proofs.YtipaccakmndkgaaGreatDoor
