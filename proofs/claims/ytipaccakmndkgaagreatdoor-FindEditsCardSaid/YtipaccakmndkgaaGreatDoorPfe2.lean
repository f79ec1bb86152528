/- Behind a region of 'wpAny_loose' the frame is the old one with the operations' slots put anew. No conditions. Clearing the lowest ones of a word, and where a one stands (plain Lean). No conditions. Lists with an element let in or out (plain Lean). No conditions. A region that draws its order, as in 'Loose', with a step of its own for each operation: one of them may write. No conditions. -/
import Derived.Test.YtipaccakmndkgaaGreatDoorPfe1
import Derived.Lib.TrailingZeros
namespace Go.Proofs.YtipaccakmndkgaaGreatDoor
open Go.RowKit Go
set_option linter.unusedVariables false
def putsOf (ev:Operand→Value) (ds:List Nat) (a0:Act):Act:=ds.foldl (fun x d=>x.put (some d) (ev (.tmp d))) a0
theorem puts_at (a:Act) (ds:List Nat) (a0:Act) (hsz:a.tmps.size=a0.tmps.size):
 (putsOf a.eval ds a0).tmps.size=a0.tmps.size∧(putsOf a.eval ds a0).defers=a0.defers∧
 ∀t,(putsOf a.eval ds a0).tmps.getD t undef=if t∈ds then a.tmps.getD t undef else a0.tmps.getD t undef:=by
 induction ds generalizing a0 with
 | nil=>exact ⟨rfl,rfl,fun t=>by simp [putsOf]⟩
 | cons d ds ih=>
   have h1:(a0.put (some d) (a.eval (.tmp d))).tmps.size=a0.tmps.size:=by simp [Act.put]
   obtain ⟨i1,i2,i3⟩:=ih (a0.put (some d) (a.eval (.tmp d))) (by rw [h1];exact hsz)
   refine ⟨i1.trans h1,i2,fun t=>?_⟩
   have h2:=i3 t
   change (putsOf a.eval ds (a0.put (some d) (a.eval (.tmp d)))).tmps.getD t undef=_
   rw [h2]
   by_cases ht:t∈ds
   · rw [if_pos ht,if_pos (List.mem_cons_of_mem _ ht)]
   · rw [if_neg ht]
     by_cases htd:t=d
     · subst htd
       rw [if_pos (List.mem_cons_self ..)]
       by_cases hlt:t < a0.tmps.size
       · simp [Act.put,Array.getD_eq_getD_getElem?,hlt,Act.eval]
       · have hlt2:¬t < a.tmps.size:=by omega
         simp [Act.put,Array.getD_eq_getD_getElem?,hlt,hlt2]
     · rw [if_neg (by simp [htd,ht])]
       have:d≠t:=fun h=>htd h.symm
       simp [Act.put,Array.getD_eq_getD_getElem?,this]
theorem act_puts (a a0:Act) (ds:List Nat) (hsz:a.tmps.size=a0.tmps.size) (hdf:a.defers=a0.defers) (h:∀t,t∉ds→a.tmps.getD t undef=a0.tmps.getD t undef):a=putsOf a.eval ds a0:=by
 obtain ⟨i1,i2,i3⟩:=puts_at a ds a0 hsz
 have key:a.tmps=(putsOf a.eval ds a0).tmps:=by
  apply Array.ext
  · rw [i1,hsz]
  · intro i h1 h2
    have:=i3 i
    have e1:(putsOf a.eval ds a0).tmps.getD i undef=(putsOf a.eval ds a0).tmps[i]:=by simp [Array.getD_eq_getD_getElem?,h2]
    have e2:a.tmps.getD i undef=a.tmps[i]:=by simp [Array.getD_eq_getD_getElem?,h1]
    rw [e1] at this
    rw [this]
    by_cases hi:i∈ds
    · rw [if_pos hi,e2]
    · rw [if_neg hi,←h i hi,e2]
 cases ha:a with
 | mk t d=>
   cases hp:putsOf a.eval ds a0 with
   | mk t' d'=>
     rw [ha] at hp
     rw [hp]
     rw [ha,hp] at key
     rw [ha,hp] at i2
     rw [ha] at hdf
     simp only at key i2 hdf
     rw [key,hdf,i2]
section
variable {P : Program} {ops : Array Oper} {Q : Exit → Act → World → Prop} {md : Region.Mode}
theorem wpAny_loose2 (ds:List Nat) (S:World→World→Prop) (V:Nat→Value→World→Prop) (a0:Act) (W0:World)
 (hds:ops.toList.filterMap (·.dst)=ds)
 (hlaid:laidB md ops a0.tmps.size=true) (hrefl:S W0 W0) (htrans:∀w w',S W0 w→S w w'→S W0 w') (hstab:∀i v w w',V i v w→S w w'→V i v w')
 (hstep:∀j o,ops[j]?=some o→StepOk P ops Q md S V a0 W0 j o)
 (hend:∀(ev:Operand→Value) w,S W0 w→(∀i d,((ops[i]?).bind (·.dst))=some d→V i (ev (.tmp d)) w)→Q .normal (putsOf ev ds a0) w):
 wpAny P md ops Q ops.size (Array.replicate ops.size false) a0 W0:=by
 refine wpAny_loose S V a0 W0 hlaid hrefl htrans hstab hstep fun a w hS hsz hdf hold hval=>?_
 have h1:=hend a.eval w hS fun i d hd=>by
  cases ho:ops[i]? with
  | none=>rw [ho] at hd;cases hd
  | some o=>rw [ho] at hd;exact hval i o d ho hd
 rw [←act_puts a a0 ds hsz hdf fun t ht=>hold t fun k p hp hd=>ht ?_] at h1
 · exact h1
 · rw [←hds]
   exact List.mem_filterMap.2 ⟨p,Array.mem_toList_iff.2 (Array.mem_of_getElem? hp),hd⟩
end
end Go.Proofs.YtipaccakmndkgaaGreatDoor
namespace Go.Proofs.YtipaccakmndkgaaGreatDoor
set_option linter.unusedVariables false
set_option linter.unusedSimpArgs false
theorem ones_mono (x:Nat) {n m:Nat} (h:n≤m):ones x n≤ones x m:=by
 induction m with
 | zero=>obtain rfl:n=0:=by omega
         exact Nat.le_refl _
 | succ m ih=>
   rw [ones_succ]
   by_cases hn:n≤m
   · have:=ih hn;omega
   · obtain rfl:n=m+1:=by omega
     rw [ones_succ]
     exact Nat.le_refl _
theorem ones_ex (x:Nat) {i:Nat}:∀ {n:Nat},i < ones x n→∃q,q < n∧x.testBit q=true∧ones x q=i
 | 0,h=>by rw [ones_zero] at h;omega
 | n+1,h=>by
   by_cases h1:i < ones x n
   · obtain ⟨q,h2,h3,h4⟩:=ones_ex x h1
     exact ⟨q,by omega,h3,h4⟩
   · rw [ones_succ] at h
     cases hb:x.testBit n with
     | false=>rw [hb] at h;simp at h;omega
     | true=>
       rw [hb] at h
       simp at h
       exact ⟨n,by omega,hb,by omega⟩
theorem ones_inj (x:Nat) {p q:Nat} (hp:x.testBit p=true) (hq:x.testBit q=true) (h:ones x p=ones x q):p=q:=by
 rcases Nat.lt_trichotomy p q with h1 | h1 | h1
 · have:=ones_mono x (show p+1≤q from h1)
   rw [ones_succ,hp] at this
   simp at this
   omega
 · exact h1
 · have:=ones_mono x (show q+1≤p from h1)
   rw [ones_succ,hq] at this
   simp at this
   omega
theorem low_one {y:Nat} (h0:0 < y) (h:y < 2 ^ 64):∃m,y=2 ^ Lib.ctz 64 y*(2*m+1)∧Lib.ctz 64 y < 64:=by
 obtain ⟨m,h1,h2⟩:=Lib.ctzFrom_spec 64 y h0 h
 have e:Lib.ctz 64 y=Lib.ctzFrom 64 y:=by unfold Lib.ctz;rw [if_neg (by omega)]
 exact ⟨m,by rw [e];exact h1,by rw [e];exact h2⟩
theorem low_bit (k m q:Nat):(2 ^ k*(2*m+1)).testBit q=if q < k then false else if q=k then true else m.testBit (q - k - 1):=by
 rw [Nat.mul_comm,Nat.testBit_mul_two_pow]
 by_cases h1:q < k
 · rw [if_pos h1,decide_eq_false (by omega)]
   rfl
 · rw [if_neg h1,decide_eq_true (by omega),Bool.true_and]
   by_cases h2:q=k
   · rw [if_pos h2]
     subst h2
     rw [Nat.sub_self]
     simp [Nat.testBit_zero]
   · rw [if_neg h2]
     obtain ⟨d,hd⟩:∃d,q - k=d+1:=⟨q - k - 1,by omega⟩
     rw [hd,Nat.testBit_succ]
     have:(2*m+1)/ 2=m:=by omega
     rw [this]
     congr 1
theorem pred_bit (k m q:Nat):(2 ^ k*(2*m+1) - 1).testBit q=if q < k then true else if q=k then false else m.testBit (q - k - 1):=by
 have hp:0 < 2 ^ k:=Nat.two_pow_pos k
 have e:2 ^ k*(2*m+1) - 1=2 ^ k*(2*m)+(2 ^ k - 1):=by
  rw [Nat.mul_add,Nat.mul_one]
  omega
 rw [e,Nat.testBit_two_pow_mul_add _ (by omega)]
 by_cases h1:q < k
 · rw [if_pos h1,if_pos h1,Nat.testBit_two_pow_sub_one,decide_eq_true h1]
 · rw [if_neg h1,if_neg h1]
   by_cases h2:q=k
   · rw [if_pos h2]
     subst h2
     rw [Nat.sub_self]
     simp [Nat.testBit_zero]
   · rw [if_neg h2]
     obtain ⟨d,hd⟩:∃d,q - k=d+1:=⟨q - k - 1,by omega⟩
     rw [hd,Nat.testBit_succ]
     have:2*m / 2=m:=by omega
     rw [this]
     congr 1
theorem clear_low {y:Nat} (h0:0 < y) (h:y < 2 ^ 64) (q:Nat):(y&&&(y - 1)).testBit q=(y.testBit q&&decide (q≠Lib.ctz 64 y)):=by
 obtain ⟨m,h1,h2⟩:=low_one h0 h
 generalize Lib.ctz 64 y=k at h1 h2
 subst h1
 rw [Nat.testBit_and,low_bit,pred_bit]
 by_cases a1:q < k
 · simp [a1]
 · by_cases a2:q=k
   · simp [a2]
   · simp [a1,a2]
theorem ctz_bit {y:Nat} (h0:0 < y) (h:y < 2 ^ 64):y.testBit (Lib.ctz 64 y)=true∧∀q,q < Lib.ctz 64 y→y.testBit q=false:=by
 obtain ⟨m,h1,h2⟩:=low_one h0 h
 generalize Lib.ctz 64 y=k at h1 h2⊢
 subst h1
 refine ⟨?_,fun q hq=>?_⟩
 · rw [low_bit,if_neg (by omega),if_pos rfl]
 · rw [low_bit,if_pos hq]
def clr (x:Nat):Nat→Nat
 | 0=>x
 | i+1=>clr x i&&&(clr x i - 1)
theorem clr_le (x i:Nat):clr x i≤x:=by
 induction i with
 | zero=>exact Nat.le_refl _
 | succ i ih=>exact Nat.le_trans Nat.and_le_left ih
theorem clr_bit {x:Nat} (hx:x < 2 ^ 64) {p:Nat} (hp:x.testBit p=true):∀i,i≤ones x p→∀q,(clr x i).testBit q=(x.testBit q&&decide (i≤ones x q))
 | 0,_,q=>by simp [clr]
 | i+1,hi,q=>by
   have ih:=clr_bit hx hp i (by omega)
   have hs:(clr x i).testBit p=true:=by rw [ih,hp,decide_eq_true (by omega)];rfl
   have h0:0 < clr x i:=by
    rcases Nat.eq_zero_or_pos (clr x i) with h | h
    · rw [h] at hs;simp at hs
    · exact h
   have hlt:clr x i < 2 ^ 64:=Nat.lt_of_le_of_lt (clr_le x i) hx
   obtain ⟨k1,k2⟩:=ctz_bit h0 hlt
   show (clr x i&&&(clr x i - 1)).testBit q=_
   rw [clear_low h0 hlt]
   generalize Lib.ctz 64 (clr x i)=k at k1 k2
   rw [ih,Bool.and_eq_true,decide_eq_true_eq] at k1
   obtain ⟨k1,k3⟩:=k1
   have hk:ones x k=i:=by
    by_cases h1:i < ones x k
    · obtain ⟨q',a1,a2,a3⟩:=ones_ex x h1
      have:=k2 q' a1
      rw [ih,a2,a3] at this
      simp at this
    · omega
   rw [ih]
   cases hb:x.testBit q with
   | false=>rfl
   | true=>
     rw [Bool.true_and,Bool.true_and,Bool.eq_iff_iff,Bool.and_eq_true,decide_eq_true_eq,decide_eq_true_eq,decide_eq_true_eq]
     constructor
     · rintro ⟨h1,h2⟩
       by_cases h3:ones x q=i
       · exact absurd (ones_inj x hb k1 (by omega)) h2
       · omega
     · intro h1
       refine ⟨by omega,?_⟩
       rintro rfl
       omega
theorem clr_pos {x:Nat} (hx:x < 2 ^ 64) {p i:Nat} (hp:x.testBit p=true) (hi:i≤ones x p):0 < clr x i:=by
 have:=clr_bit hx hp i hi p
 rw [hp,decide_eq_true hi] at this
 rcases Nat.eq_zero_or_pos (clr x i) with h | h
 · rw [h] at this;simp at this
 · exact h
theorem clr_ctz {x:Nat} (hx:x < 2 ^ 64) {p j:Nat} (hp:x.testBit p=true) (hj:ones x p=j):Lib.ctz 64 (clr x j)=p:=by
 have h0:=clr_pos hx hp (i:=j) (by omega)
 have hlt:clr x j < 2 ^ 64:=Nat.lt_of_le_of_lt (clr_le x j) hx
 obtain ⟨k1,k2⟩:=ctz_bit h0 hlt
 have hb:=clr_bit hx hp j (by omega)
 rcases Nat.lt_trichotomy (Lib.ctz 64 (clr x j)) p with h | h | h
 · rw [hb,Bool.and_eq_true,decide_eq_true_eq] at k1
   have:=ones_mono x (show Lib.ctz 64 (clr x j)+1≤p from h)
   rw [ones_succ,k1.1] at this
   simp at this
   omega
 · exact h
 · have:=k2 p h
   rw [hb,hp,decide_eq_true (by omega)] at this
   simp at this
def wordB (x:Nat) (b:Bool):Nat:=if b then x else 18446744073709551615 - x
theorem wordB_lt (x:Nat) (b:Bool) (h:x < 18446744073709551616):wordB x b < 18446744073709551616:=by
 unfold wordB
 split <;> omega
theorem wordB_bit (x:Nat) (b:Bool) (h:x < 18446744073709551616) {q:Nat} (hq:q < 64):(wordB x b).testBit q=(x.testBit q==b):=by
 unfold wordB
 cases b with
 | true=>simp
 | false=>
   have e:18446744073709551615 - x=2 ^ 64 -(x+1):=by omega
   simp only [Bool.false_eq_true,if_false]
   rw [e,Nat.testBit_two_pow_sub_succ (by omega),decide_eq_true hq]
   cases x.testBit q <;> rfl
theorem ones_count (x:Nat) (l:List Bool) (b:Bool):∀n,n≤l.length→(∀q,q < n→∀c,l[q]?=some c→x.testBit q=(c==b))→ones x n=(l.take n).count b
 | 0,_,_=>by simp [ones_zero]
 | n+1,hn,h=>by
   have hc:l[n]?=some (l[n]'(by omega)):=List.getElem?_eq_getElem (by omega)
   rw [ones_succ,ones_count x l b n (by omega) (fun q hq=>h q (by omega)),List.take_add_one,hc,List.count_append,h n (by omega) _ hc]
   simp [List.count_cons]
theorem w0_bit (l:List Bool) {q:Nat} (hq:q < 64) {c:Bool} (h:l[q]?=some c):(w0 l).testBit q=c:=by
 unfold w0
 rw [encW_bit,List.getD_eq_getElem?_getD,List.getElem?_take,if_pos hq,h]
 rfl
theorem w1_bit (l:List Bool) {q:Nat} {c:Bool} (h:l[64+q]?=some c):(w1 l).testBit q=c:=by
 unfold w1
 rw [encW_bit,List.getD_eq_getElem?_getD,List.getElem?_drop,h]
 rfl
theorem sel_lo {l:List Bool} {b:Bool} {p j:Nat} (hl:l.length≤128) (hp:l[p]?=some b) (hj:(l.take p).count b=j) (h:p < 64):
 (wordB (w0 l) b).testBit p=true∧ones (wordB (w0 l) b) p=j∧j < ones (wordB (w0 l) b) 64:=by
 have hlt:=w0_lt l
 have hpl:=(List.getElem?_eq_some_iff.1 hp).1
 have h1:(wordB (w0 l) b).testBit p=true:=by rw [wordB_bit _ _ hlt h,w0_bit l h hp];simp
 have h2:ones (wordB (w0 l) b) p=j:=by
  rw [←hj]
  exact ones_count _ l b p (by omega) fun q hq c hc=>by rw [wordB_bit _ _ hlt (by omega),w0_bit l (by omega) hc]
 refine ⟨h1,h2,?_⟩
 have:=ones_mono (wordB (w0 l) b) (show p+1≤64 by omega)
 rw [ones_succ,h1,h2] at this
 simp at this
 omega
theorem sel_hi {l:List Bool} {b:Bool} {p j:Nat} (hl:l.length≤128) (hp:l[p]?=some b) (hj:(l.take p).count b=j) (h:64≤p):
 ∃n k,ones (wordB (w0 l) b) 64=n∧n≤j∧j - n=k∧(wordB (w1 l) b).testBit (p - 64)=true∧ones (wordB (w1 l) b) (p - 64)=k∧k < ones (wordB (w1 l) b) 64:=by
 have hlt:=w0_lt l
 have hlt1:=w1_lt l hl
 have hpl:=(List.getElem?_eq_some_iff.1 hp).1
 have e0:ones (wordB (w0 l) b) 64=(l.take 64).count b:=ones_count _ l b 64 (by omega) fun q hq c hc=>by rw [wordB_bit _ _ hlt hq,w0_bit l hq hc]
 have hsplit:(l.take p).count b=(l.take 64).count b+((l.drop 64).take (p - 64)).count b:=by
  have:l.take p=l.take 64++(l.drop 64).take (p - 64):=by
   rw [←List.take_add]
   congr 1
   omega
  rw [this,List.count_append]
 have h1:(wordB (w1 l) b).testBit (p - 64)=true:=by
  rw [wordB_bit _ _ hlt1 (by omega),w1_bit l (q:=p - 64) (by rw [show 64+(p - 64)=p by omega];exact hp)]
  simp
 have h2:ones (wordB (w1 l) b) (p - 64)=((l.drop 64).take (p - 64)).count b:=
  ones_count _ (l.drop 64) b (p - 64) (by rw [List.length_drop];omega) fun q hq c hc=>by
   rw [List.getElem?_drop] at hc
   rw [wordB_bit _ _ hlt1 (by omega),w1_bit l hc]
 refine ⟨_,_,e0,by omega,rfl,h1,by rw [h2];omega,?_⟩
 have:=ones_mono (wordB (w1 l) b) (show p - 64+1≤64 by omega)
 rw [ones_succ,h1,h2] at this
 simp at this
 omega
end Go.Proofs.YtipaccakmndkgaaGreatDoor
namespace Go.Proofs.YtipaccakmndkgaaGreatDoor
set_option linter.unusedVariables false
set_option linter.unusedSimpArgs false
def insN {α:Type} (l:List α) (k:Nat) (x:α):List α:=l.take k++x::l.drop k
def delN {α:Type} (l:List α) (k:Nat):List α:=l.take k++l.drop (k+1)
theorem insN_len {α:Type} (l:List α) {k:Nat} (x:α) (h:k≤l.length):(insN l k x).length=l.length+1:=by
 unfold insN
 rw [List.length_append,List.length_take,List.length_cons,List.length_drop]
 omega
theorem delN_len {α:Type} (l:List α) {k:Nat} (h:k < l.length):(delN l k).length+1=l.length:=by
 unfold delN
 rw [List.length_append,List.length_take,List.length_drop]
 omega
theorem insN_get {α:Type} (l:List α) {k:Nat} (x:α) (h:k≤l.length) (j:Nat):(insN l k x)[j]?=if j < k then l[j]? else if j=k then some x else l[j - 1]?:=by
 unfold insN
 have hl:(l.take k).length=k:=by rw [List.length_take];omega
 by_cases h1:j < k
 · rw [if_pos h1,List.getElem?_append_left (by omega),List.getElem?_take,if_pos h1]
 · rw [if_neg h1,List.getElem?_append_right (by omega),hl]
   by_cases h2:j=k
   · subst h2
     rw [if_pos rfl,Nat.sub_self]
     rfl
   · rw [if_neg h2]
     obtain ⟨d,rfl⟩:∃d,j=k+d+1:=⟨j - k - 1,by omega⟩
     rw [show k+d+1 - k=d+1 by omega,List.getElem?_cons_succ,List.getElem?_drop]
     congr 1
theorem delN_get {α:Type} (l:List α) {k:Nat} (h:k < l.length) (j:Nat):(delN l k)[j]?=if j < k then l[j]? else l[j+1]?:=by
 unfold delN
 have hl:(l.take k).length=k:=by rw [List.length_take];omega
 by_cases h1:j < k
 · rw [if_pos h1,List.getElem?_append_left (by omega),List.getElem?_take,if_pos h1]
 · rw [if_neg h1,List.getElem?_append_right (by omega),hl,List.getElem?_drop]
   congr 1
   omega
theorem insN_map {α β:Type} (f:α→β) (l:List α) (k:Nat) (x:α):(insN l k x).map f=insN (l.map f) k (f x):=by simp [insN]
theorem delN_map {α β:Type} (f:α→β) (l:List α) (k:Nat):(delN l k).map f=delN (l.map f) k:=by simp [delN]
theorem insN_perm {α:Type} (l:List α) (k:Nat) (x:α):(insN l k x).Perm (x::l):=by
 unfold insN
 exact (List.perm_middle).trans (by rw [List.take_append_drop])
theorem delN_perm {α:Type} {l:List α} {k:Nat} {x:α} (h:l[k]?=some x):(x::delN l k).Perm l:=by
 obtain ⟨hk,hx⟩:=List.getElem?_eq_some_iff.1 h
 have e:l=l.take k++x::l.drop (k+1):=by
  rw [←hx,←List.drop_eq_getElem_cons hk,List.take_append_drop]
 unfold delN
 exact (List.perm_middle.symm).trans (by rw [←e])
theorem insN_getD (l:List Bool) {k:Nat} (x:Bool) (h:k≤l.length) (j:Nat):(insN l k x).getD j false=if j < k then l.getD j false else if j=k then x else l.getD (j - 1) false:=by
 rw [List.getD_eq_getElem?_getD,insN_get l x h]
 split
 · rw [List.getD_eq_getElem?_getD]
 · split
   · rfl
   · rw [List.getD_eq_getElem?_getD]
theorem delN_getD (l:List Bool) {k:Nat} (h:k < l.length) (j:Nat):(delN l k).getD j false=if j < k then l.getD j false else l.getD (j+1) false:=by
 rw [List.getD_eq_getElem?_getD,delN_get l h]
 split
 · rw [List.getD_eq_getElem?_getD]
 · rw [List.getD_eq_getElem?_getD]
theorem take_getD (l:List Bool) (n j:Nat):(l.take n).getD j false=(decide (j < n)&&l.getD j false):=by
 rw [List.getD_eq_getElem?_getD,List.getElem?_take]
 by_cases h:j < n
 · rw [if_pos h,List.getD_eq_getElem?_getD];simp [h]
 · rw [if_neg h];simp [h]
theorem drop_getD (l:List Bool) (n j:Nat):(l.drop n).getD j false=l.getD (n+j) false:=by
 rw [List.getD_eq_getElem?_getD,List.getElem?_drop,List.getD_eq_getElem?_getD]
end Go.Proofs.YtipaccakmndkgaaGreatDoor
namespace Go.Proofs.YtipaccakmndkgaaGreatDoor
open Go.RowKit Go
set_option linter.unusedVariables false
section
variable {P : Program} {ops : Array Oper} {Q : Exit → Act → World → Prop} {md : Region.Mode}
def aftB (md:Region.Mode) (ops:Array Oper) (i j:Nat):Bool:=match ops[i]? with
 | some o=>o.after.toList.any (fun e=>Region.binds md e&&e.on==j)
 | none=>false
def StepOk3 (P:Program) (ops:Array Oper) (Q:Exit→Act→World→Prop) (md:Region.Mode) (C:World→Prop) (S:Nat→World→World→Prop) (U:Nat→World→Prop) (V:Nat→Value→World→Prop) (a0:Act) (j:Nat) (o:Oper):Prop:=
 ∀a w,C w→U j w→a.tmps.size=a0.tmps.size→a.defers=a0.defers→
    (∀t,oldB md ops j t=true→a.tmps.getD t undef=a0.tmps.getD t undef)→
    (∀e∈o.after,Region.binds md e=true→∀p d,ops[e.on]?=some p→p.dst=some d→V e.on (a.tmps.getD d undef) w)→
    ∀K:Act→World→Prop,(∀v w',S j w w'→V j v w'→K (a.put o.dst v) w')→wpOp P ops Q j K a w
theorem step_on3 {C:World→Prop} {S:Nat→World→World→Prop} {U:Nat→World→Prop} {V:Nat→Value→World→Prop} {a0:Act} {j:Nat} {o:Oper} (ho:ops[j]?=some o) (hg:o.guard=none)
 (h:∀ev:Operand→Value,∀w,C w→U j w→(∀v,ev (.const v)=v)→(∀f,ev (.func f)=.func (.func f) #[] #[])→(∀t,oldB md ops j t=true→ev (.tmp t)=a0.eval (.tmp t))→
  (∀i d,o.after.toList.any (fun e=>Region.binds md e&&e.on==i)=true→((ops[i]?).bind (·.dst))=some d→V i (ev (.tmp d)) w)→
  ∀a K,a.eval=ev→(∀v w',S j w w'→V j v w'→K (a.put o.dst v) w')→Oper.upon P o a K Q ((execOp ev o).run P w)):StepOk3 P ops Q md C S U V a0 j o:=by
 intro a w hS hU hsz hdf hold hval K hK
 unfold wpOp
 simp only [ho]
 have hw:Region.wanted o (yielded ops a.tmps)=true:=by unfold Region.wanted;rw [hg]
 rw [if_pos hw]
 refine .inl (h a.eval w hS hU (fun _=>rfl) (fun _=>rfl) (fun t ht=>hold t ht) (fun i d hi hd=>?_) a K rfl hK)
 obtain ⟨e,he,h2⟩:=List.any_eq_true.1 hi
 simp only [Bool.and_eq_true,beq_iff_eq] at h2
 obtain ⟨h3,rfl⟩:=h2
 cases hp:ops[e.on]? with
 | none=>rw [hp] at hd;cases hd
 | some p=>rw [hp] at hd;exact hval e (Array.mem_toList_iff.1 he) h3 p d hp hd
end
end Go.Proofs.YtipaccakmndkgaaGreatDoor
