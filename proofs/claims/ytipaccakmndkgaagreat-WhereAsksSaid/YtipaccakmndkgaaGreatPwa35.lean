/- Plain laws for an edit on the transform: an order of a text's places that is right but for one of them, and the move that rights it (plain Lean). No conditions. A text with its pairs (TpAt), live.New; arguments of literals. Conditions: a text of at most 127 bytes. A text by any right pairs: the walks of perm's Pos and live's Pos. Conditions: a text of at most 127 bytes. -/
import Derived.Test.YtipaccakmndkgaaGreatPwa27
import Derived.Test.YtipaccakmndkgaaGreatPwa33
import Derived.Test.YtipaccakmndkgaaGreatPwa2
import Derived.Test.YtipaccakmndkgaaGreatPwa34
import Derived.Test.YtipaccakmndkgaaGreatPwa25
import Derived.Lib.SlBytesConst
import Derived.Test.YtipaccakmndkgaaGreatPwa21
namespace Go.Proofs.YtipaccakmndkgaaGreat
set_option linter.unusedVariables false
set_option linter.unusedSimpArgs false
def inR (r c:Nat):Nat:=if c≤r then r+1 else r
def outR (r g:Nat):Nat:=if g < r then r - 1 else r
abbrev ro (R:List Nat) (p:Nat):Nat:=R.idxOf p
theorem ro_get {R:List Nat} {p:Nat} (h:p∈R):R[ro R p]?=some p:=List.getElem?_eq_some_iff.2 ⟨List.idxOf_lt_length_iff.2 h,List.getElem_idxOf _⟩
theorem ro_of {R:List Nat} (hn:R.Nodup) {r p:Nat} (h:R[r]?=some p):ro R p=r:=by
 obtain ⟨hr,e⟩:=List.getElem?_eq_some_iff.1 h
 subst e
 exact hn.idxOf_getElem r hr
theorem ro_inj {R:List Nat} {p q:Nat} (hp:p∈R) (hq:q∈R) (h:ro R p=ro R q):p=q:=by
 have h1:=ro_get hp
 rw [h,ro_get hq] at h1
 injection h1 with h1
 exact h1.symm
theorem ro_move {R:List Nat} (hn:R.Nodup) {a t x:Nat} (ha:R[a]?=some x) (ht:t < R.length):
 (insN (delN R a) t x).Perm R∧ro (insN (delN R a) t x) x=t∧∀p∈R,p≠x→ro (insN (delN R a) t x) p=inR (outR (ro R p) a) t:=by
 have hal:=(List.getElem?_eq_some_iff.1 ha).1
 have hdl:=delN_len R hal
 have hperm:(insN (delN R a) t x).Perm R:=(insN_perm _ _ _).trans (delN_perm ha)
 have hn':(insN (delN R a) t x).Nodup:=hperm.nodup_iff.2 hn
 refine ⟨hperm,?_,fun p hp hpx=>?_⟩
 · refine ro_of hn' ?_
   rw [insN_get _ _ (by omega),if_neg (by omega),if_pos rfl]
 · have h1:=ro_get hp
   have hne:ro R p≠a:=fun e=>by
    rw [e,ha] at h1
    injection h1 with h1
    exact hpx h1.symm
   refine ro_of hn' ?_
   have hlt:=(List.getElem?_eq_some_iff.1 h1).1
   rw [insN_get _ _ (by omega)]
   unfold inR outR
   by_cases c1:a < ro R p
   · rw [if_pos c1]
     by_cases c2:t≤ro R p - 1
     · rw [if_pos c2,if_neg (by omega),if_neg (by omega),delN_get _ hal,if_neg (by omega)]
       rw [←h1]
       congr 1
       omega
     · rw [if_neg c2,if_pos (by omega),delN_get _ hal,if_neg (by omega),←h1]
       congr 1
       omega
   · rw [if_neg c1]
     by_cases c2:t≤ro R p
     · rw [if_pos c2,if_neg (by omega),if_neg (by omega),delN_get _ hal,if_pos (by omega),←h1]
       congr 1
     · rw [if_neg c2,if_pos (by omega),delN_get _ hal,if_pos (by omega),←h1]
def keyR (S R:List Nat) (p q:Nat):Prop:=S.getD p 0 < S.getD q 0∨(S.getD p 0=S.getD q 0∧ro R (p+1) < ro R (q+1))
structure Near (S R:List Nat) (N i:Nat):Prop where
 endk:EndOk S N
 perm:R.Perm (List.range (N+1))
 first:∀p q,p≤N→q≤N→ro R p < ro R q→S.getD p 0≤S.getD q 0
 cons:∀p q,p≤N→q≤N→p≠q→p+1≠i→q+1≠i→(ro R p < ro R q↔keyR S R p q)
section
variable {S R : List Nat} {N i : Nat}
theorem Near.nodup (h:Near S R N i):R.Nodup:=h.perm.nodup_iff.2 List.nodup_range
theorem Near.mem (h:Near S R N i) {p:Nat}:p∈R↔p≤N:=by
 rw [h.perm.mem_iff,List.mem_range]
 omega
theorem Near.len (h:Near S R N i):R.length=N+1:=by simpa using h.perm.length_eq
theorem ltS_step {S:List Nat} {p q:Nat} (hp:p < S.length) (hq:q < S.length) (he:S.getD p 0=S.getD q 0) (h:sufLt S (p+1) (q+1)):sufLt S p q:=by
 obtain ⟨w,k,h1,h2,h3⟩:=h
 refine ⟨w+1,k+1,by omega,fun m hm=>?_,?_⟩
 · cases m with
   | zero=>
     rw [Nat.add_zero,Nat.add_zero,aN_getD hp,aN_getD hq,he]
   | succ m=>
     have:=h2 m (by omega)
     rw [show p+(m+1)=p+1+m by omega,show q+(m+1)=q+1+m by omega]
     exact this
 · rw [show p+(k+1)=p+1+k by omega,show q+(k+1)=q+1+k by omega]
   exact h3
theorem ltS_now {S:List Nat} {p q:Nat} (hp:p < S.length) (hq:q < S.length) (he:S.getD p 0 < S.getD q 0):sufLt S p q:=by
 refine ⟨1,0,by omega,fun m hm=>by omega,?_⟩
 rw [Nat.add_zero,Nat.add_zero,aN_getD hp,aN_getD hq]
 omega
theorem Near.sorted (h:Near S R N 0):IsSuf S R:=by
 obtain ⟨e1,e2,e3⟩:=h.endk
 have key:∀d p q,N < p+d→p≤N→q≤N→p≠q→ro R p < ro R q→sufLt S p q:=by
  intro d
  induction d with
  | zero=>intro p q hd hp;omega
  | succ d ih=>
    intro p q hd hp hq hpq hlt
    rcases (h.cons p q hp hq hpq (by omega) (by omega)).1 hlt with h1 |⟨h1,h2⟩
    · exact ltS_now (by omega) (by omega) h1
    · have hpN:p≠N:=fun e=>by
       subst e
       have:=e3 q (by omega)
       omega
      have hqN:q≠N:=fun e=>by
       subst e
       have:=e3 p (by omega)
       omega
      exact ltS_step (by omega) (by omega) h1 (ih (p+1) (q+1) (by omega) (by omega) (by omega) (by omega) h2)
 refine ⟨by rw [e1];exact h.perm,?_⟩
 rw [List.pairwise_iff_getElem]
 intro a b ha hb hab
 have hn:=h.nodup
 have hpa:R[a]≤N:=h.mem.1 (List.getElem_mem ha)
 have hpb:R[b]≤N:=h.mem.1 (List.getElem_mem hb)
 have ra:ro R R[a]=a:=ro_of hn (List.getElem?_eq_getElem ha)
 have rb:ro R R[b]=b:=ro_of hn (List.getElem?_eq_getElem hb)
 exact key (N+1) _ _ (by omega) hpa hpb (fun e=>by rw [e,rb] at ra;omega) (by rw [ra,rb];exact hab)
theorem IsSuf.near (h:IsSuf S R) (he:EndOk S N):Near S R N 0:=by
 obtain ⟨e1,e2,e3⟩:=he
 have hperm:R.Perm (List.range (N+1)):=by rw [←e1];exact h.perm
 have hn:=h.nodup
 have hm:∀p,p≤N→p∈R:=fun p hp=>h.mem (by omega)
 have hs:∀p q,p≤N→q≤N→ro R p < ro R q→sufLt S p q:=fun p q hp hq hlt=>by
  have hpl:=(List.getElem?_eq_some_iff.1 (ro_get (hm p hp)))
  have hql:=(List.getElem?_eq_some_iff.1 (ro_get (hm q hq)))
  obtain ⟨h1,h2⟩:=hpl
  obtain ⟨h3,h4⟩:=hql
  have:=List.pairwise_iff_getElem.1 h.sorted _ _ h1 h3 hlt
  rwa [h2,h4] at this
 have hs2:∀p q,p≤N→q≤N→sufLt S p q→ro R p < ro R q:=fun p q hp hq hlt=>by
  rcases Nat.lt_trichotomy (ro R p) (ro R q) with h1 | h1 | h1
  · exact h1
  · have:=ro_inj (hm p hp) (hm q hq) h1
    subst this
    exact (hlt.asymm hlt).elim
  · exact (hlt.asymm (hs q p hq hp h1)).elim
 have hk:∀p q,p≤N→q≤N→sufLt S p q→S.getD p 0≤S.getD q 0:=fun p q hp hq ⟨w,k,h1,h2,h3⟩=>by
  cases k with
  | zero=>
    rw [Nat.add_zero,Nat.add_zero,aN_getD (by omega),aN_getD (by omega)] at h3
    omega
  | succ k=>
    have:=h2 0 (by omega)
    rw [Nat.add_zero,Nat.add_zero,aN_getD (by omega),aN_getD (by omega)] at this
    omega
 have hk2:∀p q,p≤N→q≤N→p≠q→S.getD p 0=S.getD q 0→(sufLt S p q↔sufLt S (p+1) (q+1)):=fun p q hp hq hpq heq=>by
  constructor
  · rintro ⟨w,k,h1,h2,h3⟩
    cases k with
    | zero=>
      rw [Nat.add_zero,Nat.add_zero,aN_getD (by omega),aN_getD (by omega)] at h3
      omega
    | succ k=>
      refine ⟨k+1,k,by omega,fun m hm=>?_,?_⟩
      · have:=h2 (m+1) (by omega)
        rw [show p+1+m=p+(m+1) by omega,show q+1+m=q+(m+1) by omega]
        exact this
      · rw [show p+1+k=p+(k+1) by omega,show q+1+k=q+(k+1) by omega]
        exact h3
  · exact ltS_step (by omega) (by omega) heq
 refine ⟨⟨e1,e2,e3⟩,hperm,fun p q hp hq hlt=>hk p q hp hq (hs p q hp hq hlt),fun p q hp hq hpq _ _=>?_⟩
 unfold keyR
 constructor
 · intro hlt
   have h1:=hs p q hp hq hlt
   rcases Nat.lt_or_eq_of_le (hk p q hp hq h1) with h2 | h2
   · exact .inl h2
   · refine .inr ⟨h2,?_⟩
     have hpN:p≠N:=fun e=>by
        subst e
        have:=e3 q (by omega)
        omega
     have hqN:q≠N:=fun e=>by
        subst e
        have:=e3 p (by omega)
        omega
     exact hs2 _ _ (by omega) (by omega) ((hk2 p q hp hq hpq h2).1 h1)
 · rintro (h1 |⟨h1,h2⟩)
   · exact hs2 p q hp hq (ltS_now (by omega) (by omega) h1)
   · have hpN:p≠N:=fun e=>by
        subst e
        have:=e3 q (by omega)
        omega
     have hqN:q≠N:=fun e=>by
        subst e
        have:=e3 p (by omega)
        omega
     exact hs2 p q hp hq ((hk2 p q hp hq hpq h1).2 (hs _ _ (by omega) (by omega) h2))
def kcnt (S R:List Nat) (N c r:Nat):Nat:=(List.range (N+1)).countP fun p=>decide (S.getD p 0 < c∨(S.getD p 0=c∧ro R (p+1) < r))
theorem take_cntP {R:List Nat} (hn:R.Nodup) (r:Nat) (f:Nat→Bool):(R.take r).countP f=R.countP fun p=>f p&&decide (ro R p < r):=by
 have h1:R.countP (fun p=>f p&&decide (ro R p < r))=(R.take r).countP (fun p=>f p&&decide (ro R p < r))+(R.drop r).countP (fun p=>f p&&decide (ro R p < r)):=by
  rw [←List.countP_append,List.take_append_drop]
 have h2:(R.drop r).countP (fun p=>f p&&decide (ro R p < r))=0:=by
  rw [List.countP_eq_zero]
  intro p hp
  obtain ⟨j,hj,e⟩:=List.mem_iff_getElem.1 hp
  rw [List.getElem_drop] at e
  have:ro R p=r+j:=ro_of hn (by rw [←e];exact List.getElem?_eq_getElem _)
  simp
  omega
 have h3:(R.take r).countP (fun p=>f p&&decide (ro R p < r))=(R.take r).countP f:=by
  refine List.countP_congr fun p hp=>?_
  obtain ⟨j,hj,e⟩:=List.mem_iff_getElem.1 hp
  rw [List.length_take] at hj
  rw [List.getElem_take] at e
  have:ro R p=j:=ro_of hn (by rw [←e];exact List.getElem?_eq_getElem _)
  have hjr:ro R p < r:=by omega
  simp [hjr]
 rw [h1,h2,h3]
 rfl
theorem countP_split {l:List Nat} {f g:Nat→Bool} (h:∀x∈l,¬(f x=true∧g x=true)):l.countP f+l.countP g=l.countP fun x=>f x||g x:=by
 induction l with
 | nil=>rfl
 | cons x l ih=>
   have hx:=h x (by simp)
   rw [List.countP_cons,List.countP_cons,List.countP_cons,←ih fun y hy=>h y (by simp [hy])]
   cases hf:f x <;> cases hg:g x <;> simp_all <;> omega
theorem narL_cnt (he:EndOk S N) (hp:R.Perm (List.range (N+1))) {c:Nat} (hc:0 < c) (r:Nat):narL (lastL S R) c r=kcnt S R N c r:=by
 obtain ⟨e1,e2,e3⟩:=he
 have hn:R.Nodup:=hp.nodup_iff.2 List.nodup_range
 unfold narL kcnt
 have h1:(lastL S R).countP (fun x=>decide (x < c))=(List.range (N+1)).countP fun p=>decide (S.getD p 0 < c):=by
  unfold lastL
  rw [List.countP_map,hp.countP_eq]
  refine count_prev _ _ ?_ fun p hp=>?_
  · simp only [Function.comp]
    rw [prevL_zero (by omega),e1]
    rfl
  · simp only [Function.comp]
    rw [prevL_succ (by omega)]
 have h2:((lastL S R).take r).count c=(List.range (N+1)).countP fun p=>decide (S.getD p 0=c)&&decide (ro R (p+1) < r):=by
  unfold lastL
  rw [←List.map_take,List.count_eq_countP,List.countP_map,take_cntP hn,hp.countP_eq]
  refine count_prev _ _ ?_ fun p hp=>?_
  · simp only [Function.comp]
    rw [prevL_zero (by omega),e1]
    have:(N+1 - 1)=N:=by omega
    rw [this,e2]
    have hc0:¬(0:Nat)=c:=by omega
    simp [hc0]
  · simp only [Function.comp]
    rw [prevL_succ (by omega)]
    rfl
 rw [h1,h2,countP_split]
 · refine List.countP_congr fun p _=>?_
   simp
 · intro p _ ⟨ha,hb⟩
   simp at ha hb
   omega
theorem pre_lt {K:Nat→Bool}:∀ {O:List Nat},O.Pairwise (fun p q=>K q=true→K p=true)→∀(j p:Nat),O[j]?=some p→(K p=true↔j < O.countP K)
 | [],_,j,p,h=>by simp at h
 | x::O,hO,j,p,h=>by
   obtain ⟨h1,h2⟩:=List.pairwise_cons.1 hO
   cases hx:K x with
   | true=>
     rw [List.countP_cons_of_pos hx]
     cases j with
     | zero=>
       injection h with h
       subst h
       simp [hx]
     | succ j=>
       rw [pre_lt h2 j p h]
       omega
   | false=>
     have h0:(x::O).countP K=0:=by
        rw [List.countP_eq_zero]
        intro y hy
        rcases List.mem_cons.1 hy with rfl | hy
        · simp [hx]
        · intro hk
          have:=h1 y hy hk
          rw [hx] at this
          cases this
     rw [h0]
     have hp:p∈x::O:=List.mem_of_getElem? h
     have:=(List.countP_eq_zero.1 h0) p hp
     simp [this]
def KB (S R:List Nat) (i p:Nat):Bool:=decide (S.getD p 0 < S.getD i 0∨(S.getD p 0=S.getD i 0∧ro R (p+1) < ro R (i+1)))
theorem kcnt_lt (h:Near S R N (i+1)) (hi:i≤N):∀p,p≤N→p≠i→(KB S R i p=true↔outR (ro R p) (ro R i) < kcnt S R N (S.getD i 0) (ro R (i+1))):=by
 intro p hp hpi
 have hn:=h.nodup
 have hgi:=ro_get (h.mem.2 hi)
 have hgp:=ro_get (h.mem.2 hp)
 have hil:=(List.getElem?_eq_some_iff.1 hgi).1
 have hperm:=delN_perm hgi
 have hnd:(delN R (ro R i)).Nodup:=(List.nodup_cons.1 (hperm.nodup_iff.2 hn)).2
 have hne:ro R p≠ro R i:=fun e=>hpi (ro_inj (h.mem.2 hp) (h.mem.2 hi) e)
 have hat:(delN R (ro R i))[outR (ro R p) (ro R i)]?=some p:=by
  unfold outR
  rw [delN_get _ hil]
  by_cases c:ro R i < ro R p
  · rw [if_pos c,if_neg (by omega),←hgp]
    congr 1
    omega
  · rw [if_neg c,if_pos (by omega),←hgp]
 have hcnt:kcnt S R N (S.getD i 0) (ro R (i+1))=(delN R (ro R i)).countP (KB S R i):=by
  unfold kcnt
  rw [←h.perm.countP_eq,←hperm.countP_eq,List.countP_cons]
  have h0:decide (S.getD i 0 < S.getD i 0∨(S.getD i 0=S.getD i 0∧ro R (i+1) < ro R (i+1)))=false:=by
   rw [decide_eq_false_iff_not]
   omega
  rw [h0]
  rfl
 rw [hcnt]
 refine pre_lt ?_ _ _ hat
 rw [List.pairwise_iff_getElem]
 intro a b ha hb hab hkb
 have hda:(delN R (ro R i))[a]?=some (delN R (ro R i))[a]:=List.getElem?_eq_getElem ha
 have hdb:(delN R (ro R i))[b]?=some (delN R (ro R i))[b]:=List.getElem?_eq_getElem hb
 obtain ⟨x,hx⟩:∃x,(delN R (ro R i))[a]=x:=⟨_,rfl⟩
 obtain ⟨y,hy⟩:∃y,(delN R (ro R i))[b]=y:=⟨_,rfl⟩
 rw [hx] at hda⊢
 rw [hy] at hdb hkb
 have hni:=(List.nodup_cons.1 (hperm.nodup_iff.2 hn)).1
 have hma:=List.mem_of_getElem? hda
 have hmb:=List.mem_of_getElem? hdb
 have hxi:x≠i:=fun e=>hni (by rw [e] at hma;exact hma)
 have hyi:y≠i:=fun e=>hni (by rw [e] at hmb;exact hmb)
 have hxR:x∈R:=hperm.subset (by simp [List.mem_of_getElem? hda])
 have hyR:y∈R:=hperm.subset (by simp [List.mem_of_getElem? hdb])
 have hxN:=h.mem.1 hxR
 have hyN:=h.mem.1 hyR
 have rx:∀ {a' x':Nat},(delN R (ro R i))[a']?=some x'→ro R x'=if a' < ro R i then a' else a'+1:=fun {a' x'} hh=>by
  rw [delN_get _ hil] at hh
  split at hh
  · rw [if_pos (by assumption)]
    exact ro_of hn hh
  · rw [if_neg (by assumption)]
    exact ro_of hn hh
 have hlt:ro R x < ro R y:=by
  rw [rx hda,rx hdb]
  split <;> split <;> omega
 have hxy:x≠y:=fun e=>by
  subst e
  omega
 have hk:=(h.cons x y hxN hyN hxy (by omega) (by omega)).1 hlt
 unfold KB at hkb⊢
 rw [decide_eq_true_eq] at hkb⊢
 unfold keyR at hk
 omega
def tgt (S R:List Nat) (i:Nat):Nat:=narL (lastL S R) (S.getD i 0) (ro R (i+1))
theorem tgt_eq (h:Near S R N (i+1)) (hi:i < N):tgt S R i=kcnt S R N (S.getD i 0) (ro R (i+1)):=narL_cnt h.endk h.perm (h.endk.pos i hi) _
theorem tgt_lt (h:Near S R N (i+1)) (hi:i < N):tgt S R i < N+1:=by
 rw [tgt_eq h hi]
 unfold kcnt
 have hb:(List.range (N+1)).countP (fun p=>decide (S.getD p 0 < S.getD i 0∨(S.getD p 0=S.getD i 0∧ro R (p+1) < ro R (i+1))))≠(List.range (N+1)).length:=fun e=>by
  have:=(List.countP_eq_length.1 e) i (by simp;omega)
  rw [decide_eq_true_eq] at this
  omega
 have hle:=List.countP_le_length (p:=fun p=>decide (S.getD p 0 < S.getD i 0∨(S.getD p 0=S.getD i 0∧ro R (p+1) < ro R (i+1)))) (l:=List.range (N+1))
 rw [List.length_range] at hb hle
 omega
theorem near_go (h:Near S R N (i+1)) (hi:i < N) {R':List Nat} {t:Nat} (ht:t=tgt S R i) (hp':R'.Perm R) (hi':ro R' i=t) (ho:∀p∈R,p≠i→ro R' p=inR (outR (ro R p) (ro R i)) t) (j:Nat) (hj:j=i∨(ro R i=t∧j=0)):Near S R' N j:=by
 have hk:=kcnt_lt h (by omega)
 rw [←tgt_eq h hi,←ht] at hk
 have hmem:∀p,p≤N→p∈R:=fun p hp=>h.mem.2 hp
 have hne:∀p,p≤N→p≠i→ro R p≠ro R i:=fun p hp hpi e=>hpi (ro_inj (hmem p hp) (hmem i (by omega)) e)
 have hord:∀p q,p≤N→q≤N→p≠i→q≠i→(ro R' p < ro R' q↔ro R p < ro R q):=fun p q hp hq hpi hqi=>by
  rw [ho p (hmem p hp) hpi,ho q (hmem q hq) hqi]
  have h1:=hne p hp hpi
  have h2:=hne q hq hqi
  unfold inR outR
  split <;> split <;> split <;> split <;> omega
 have hbef:∀p,p≤N→p≠i→(ro R' p < ro R' i↔KB S R i p=true):=fun p hp hpi=>by
  rw [hk p hp hpi,hi',ho p (hmem p hp) hpi]
  unfold inR
  split <;> omega
 have haft:∀p,p≤N→p≠i→(ro R' i < ro R' p↔¬KB S R i p=true):=fun p hp hpi=>by
  rw [hk p hp hpi,hi',ho p (hmem p hp) hpi]
  unfold inR
  split <;> omega
 have hsucc:∀p,p < N→p≠i→(p+1≠i∨ro R i=t)→(ro R (p+1) < ro R (i+1)↔ro R' (p+1) < ro R' (i+1)):=fun p hp hpi hc=>by
  rcases hc with hc | hc
  · exact (hord (p+1) (i+1) (by omega) (by omega) hc (by omega)).symm
  · have he:∀q,q≤N→ro R' q=ro R q:=fun q hq=>by
        by_cases hqi:q=i
        · subst hqi
          omega
        · rw [ho q (hmem q hq) hqi,hc]
          have:=hne q hq hqi
          unfold inR outR
          split <;> split <;> omega
    rw [he _ (by omega),he _ (by omega)]
 obtain ⟨e1,e2,e3⟩:=h.endk
 refine ⟨h.endk,hp'.trans h.perm,fun p q hp hq hlt=>?_,fun p q hp hq hpq hpj hqj=>?_⟩
 · by_cases hpi:p=i
   · subst hpi
     by_cases hqi:q=p
     · subst hqi
       omega
     · have:=(haft q hq hqi).1 hlt
       unfold KB at this
       rw [decide_eq_true_eq] at this
       omega
   · by_cases hqi:q=i
     · subst hqi
       have:=(hbef p hp hpi).1 hlt
       unfold KB at this
       rw [decide_eq_true_eq] at this
       omega
     · exact h.first p q hp hq ((hord p q hp hq hpi hqi).1 hlt)
 · have hend:∀x y,x≤N→y≤N→x≠y→S.getD x 0=S.getD y 0→x < N∧y < N:=fun x y hx hy hxy hxye=>by
    refine ⟨Nat.lt_of_le_of_ne hx fun e=>?_,Nat.lt_of_le_of_ne hy fun e=>?_⟩
    · subst e
      have:=e3 y (by omega)
      omega
    · subst e
      have:=e3 x (by omega)
      omega
   by_cases hpi:p=i
   · subst hpi
     have hqi:q≠p:=fun e=>hpq e.symm
     rw [haft q hq hqi]
     unfold KB keyR
     rw [decide_eq_true_eq]
     by_cases hee:S.getD q 0=S.getD p 0
     · obtain ⟨hx1,hx2⟩:=hend q p hq hp hqi hee
       have:=hsucc q hx1 hqi (by omega)
       have hneq:ro R (q+1)≠ro R (p+1):=fun e=>hqi (by have:=ro_inj (hmem (q+1) (by omega)) (hmem (p+1) (by omega)) e;omega)
       have hneq':ro R' (q+1)≠ro R' (p+1):=fun e=>hqi (by have:=ro_inj ((hp'.trans h.perm).mem_iff.2 (by simp;omega)) ((hp'.trans h.perm).mem_iff.2 (by simp;omega)) e;omega)
       omega
     · omega
   · by_cases hqi:q=i
     · subst hqi
       rw [hbef p hp hpi]
       unfold KB keyR
       rw [decide_eq_true_eq]
       by_cases hee:S.getD p 0=S.getD q 0
       · obtain ⟨hx1,hx2⟩:=hend p q hp hq hpi hee
         have:=hsucc p hx1 hpi (by omega)
         omega
       · omega
     · rw [hord p q hp hq hpi hqi,h.cons p q hp hq hpq (by omega) (by omega)]
       unfold keyR
       by_cases hee:S.getD p 0=S.getD q 0
       · obtain ⟨hx1,hx2⟩:=hend p q hp hq hpq hee
         by_cases hz:ro R i=t
         · have he:∀q,q≤N→ro R' q=ro R q:=fun q hq=>by
            by_cases hqi:q=i
            · subst hqi
              omega
            · rw [ho q (hmem q hq) hqi,hz]
              have:=hne q hq hqi
              unfold inR outR
              split <;> split <;> omega
           rw [he _ (by omega),he _ (by omega)]
         · rw [hord (p+1) (q+1) (by omega) (by omega) (by omega) (by omega)]
       · omega
end
end Go.Proofs.YtipaccakmndkgaaGreat
namespace Go.Proofs.YtipaccakmndkgaaGreat
open Go.RowKit
set_option linter.unusedVariables false
set_option linter.unusedSimpArgs false
def TpAt (w:World) (Bw gl:Nat) (t:List UInt8) (rate:Nat):Prop:=
 ∃rs gk gp pr,IsSuf (symL t) rs∧LiveG w Bw gl gk gp rate (t.length+1) (lastL (symL t) rs) pr∧(∀x∈pr,rs[x.1]?=some x.2)∧(∃x∈pr,x.2=0)∧t.length≤127
theorem TpAt.vis {w w':World} {Bw gl:Nat} {t:List UInt8} {rate:Nat} (h:TpAt w Bw gl t rate) (k:Vis w w'):TpAt w' Bw gl t rate:=by
 obtain ⟨rs,gk,gp,pr,h1,h2,h3⟩:=h
 exact ⟨rs,gk,gp,pr,h1,h2.vis k,h3⟩
theorem VB.grow {Bw:Nat} {w w1 w2:World} (h:VB Bw w w1) (k:Below w.heap.size w1 w2):VB Bw w w2:=
 ⟨⟨k.os.trans h.1.os,k.tape.trans h.1.tape,k.output.trans h.1.output,Nat.le_trans h.1.size k.size,fun b hb hn=>by
   rcases h.1.block b hb hn with e |⟨cs,v,h1,h2⟩|⟨cs,v,h1,h2⟩
   · exact .inl ((k.block b hb).trans e)
   · exact .inr (.inl ⟨cs,v,h1,h2.below k hb⟩)
   · exact .inr (.inr ⟨cs,v,h1,h2.below k hb⟩)⟩,
  ⟨k.os.trans h.2.os,k.tape.trans h.2.tape,k.output.trans h.2.output,Nat.le_trans h.2.size k.size,fun b hb hn=>(k.block b hb).trans (h.2.block b hb hn)⟩⟩
theorem TpAt.of_new {w:World} {Bw gl gk gp ga:Nat} {vl vo vt:Value} {B rate:Nat} {t:List UInt8} {rs:List Nat} {tk:List Bool} (hs:IsSuf (symL t) rs) (h:LiveAt w Bw gl gk gp ga vl vo vt B (t.length+1) rate (lastL (symL t) rs) (sampC rs rate (t.length+1)) tk) (hn:t.length≤127):TpAt w Bw gl t rate:=
 ⟨rs,gk,gp,_,hs,h.g (sampC_sorted _ _ _) (Nat.le_trans (sampC_le _ _ _) (by omega)),samp_right (by rw [hs.len,symL_len];exact Nat.le_refl _),samp_zero hs,hn⟩
theorem TpNew_any (rate:Nat) (A0:Option Addr) (m0 c0 B:Nat) (ss:List Sl) (t:List UInt8) (hT:catS ss=t) (w:World) (hr0:Rd w B 1 A0 m0 (ss.map slV)) (hss:∀s∈ss,Rd w B 1 s.A s.n (s.l.map bv)) (hB:B≤w.heap.size) (hm:m0≤1000000) (hn:t.length≤127) (hr1:1≤rate) (hr2:rate≤64):
 Calls Tryz.prog 5 #[.int .i64 (rate:Int),.slice A0 m0 c0] w fun e w'=>∃gl,e=.returned (.tuple #[.pointer (some ⟨gl,0,none⟩),.int .i64 0])∧w.heap.size≤gl∧TpAt w' w.heap.size gl t rate∧Below w.heap.size w w':=
 (LiveNew_any rate A0 m0 c0 B ss t t.length hT rfl w hr0 hss hB hm hn hr1 hr2).mono fun e w' ⟨gl,gk,gp,ga,vl,vo,vt,B',tk,rs,h1,h2,h3,h4,_,h6⟩=>⟨gl,h2,h3,TpAt.of_new h1 h4 hn,h6⟩
theorem TpAt.mono {w:World} {B B' gl:Nat} {t:List UInt8} {rate:Nat} (h:TpAt w B gl t rate) (hB:B'≤B):TpAt w B' gl t rate:=by
 obtain ⟨rs,gk,gp,pr,h1,h2,h3⟩:=h
 exact ⟨rs,gk,gp,pr,h1,h2.mono hB,h3⟩
theorem rd_mark (w:World) (e:TypeId) (cs:Array Value) (fr:Nat×Nat) (n:Nat) (hs:cs.size=n):Rd (w.alloc (.cells cs e fr)) (w.heap.size+1) 1 (some ⟨w.heap.size,0,none⟩) n cs.toList:=by
 refine ⟨by simp [hs],fun _=>⟨_,0,rfl,by omega,fun j u hu=>?_⟩⟩
 rw [Nat.zero_add,cell_of_row (w.alloc (.cells cs e fr)) w.heap.size j cs e fr (heap_alloc_new w _)]
 simpa using hu
theorem str_const (w:World) (C:Array Value) (n c:Nat):(convert 23 23 (.slice (some ⟨w.heap.size,0,none⟩) n c)).run Tryz.prog (w.alloc (.cells C 5))=.ok (.slice (some ⟨w.heap.size,0,none⟩) n c) (w.alloc (.cells C 5 (C.size,C.size+1))):=
 Lib.run_convert_bytes_const (P:=Tryz.prog) w 23 5 C n c Tryz.underlying23 Tryz.underlying5
theorem str_const1 (w:World) (o:Obj) (C:Array Value) (n c:Nat):(convert 23 23 (.slice (some ⟨w.heap.size+1,0,none⟩) n c)).run Tryz.prog ((w.alloc o).alloc (.cells C 5))=.ok (.slice (some ⟨w.heap.size+1,0,none⟩) n c) ((w.alloc o).alloc (.cells C 5 (C.size,C.size+1))):=by
 have:=str_const (w.alloc o) C n c
 rw [World.size_alloc] at this
 exact this
theorem parts_one (W:World) (cs:Array Value) (fr:Nat×Nat) (bs:List UInt8) (n:Nat) (hcs:cs.toList=bs.map bv) (hn:bs.length=n):
 Rd ((W.alloc (.cells cs 5 fr)).alloc (.cells #[.slice (some ⟨W.heap.size,0,none⟩) n n] 23)) (W.heap.size+2) 1 (some ⟨W.heap.size+1,0,none⟩) 1 ([(⟨some ⟨W.heap.size,0,none⟩,n,n,bs⟩:Sl)].map slV)∧
 (∀s∈ [(⟨some ⟨W.heap.size,0,none⟩,n,n,bs⟩:Sl)],Rd ((W.alloc (.cells cs 5 fr)).alloc (.cells #[.slice (some ⟨W.heap.size,0,none⟩) n n] 23)) (W.heap.size+2) 1 s.A s.n (s.l.map bv)):=by
 constructor
 · have:=Rd.new_ (W.alloc (.cells cs 5 fr)) 23 1 #[.slice (some ⟨W.heap.size,0,none⟩) n n] rfl
   rw [World.size_alloc] at this
   exact this
 · intro s hs
   simp at hs
   subst hs
   have h1:=rd_mark W 5 cs fr n (by rw [←Array.length_toList,hcs];simp [hn])
   rw [hcs] at h1
   exact (h1.alloc (by simp) _).mono (by omega)
end Go.Proofs.YtipaccakmndkgaaGreat
namespace Go.Proofs.YtipaccakmndkgaaGreat
open Go.RowKit Go.Shelf
set_option linter.unusedVariables false
set_option linter.unusedSimpArgs false
theorem PermPosR_none (gp R P:Nat) (pr:List (Nat×Nat)) (row:Nat) (w:World) (h:PermR w gp R P pr) (hno:∀x∈pr,x.1≠row):
 Calls Tryz.prog 70 #[.pointer (some ⟨gp,0,none⟩),.int .i64 (row:Int)] w fun e w'=>e=.returned (.int .i64 (-1))∧Below w.heap.size w w':=by
 obtain ⟨B,ga,vl,vo,vt,vf,ks,C,tk,fr,h1,h2,h3,h4,rfl⟩:=h
 exact PermPos_none B gp ga vl vo vt vf R P ks C tk fr row w h1 h2 (by omega) fun k hk=>hno _ (List.mem_map.2 ⟨k,hk,rfl⟩)
theorem PermPosR_some (gp R P:Nat) (pr:List (Nat×Nat)) (row pos:Nat) (w:World) (h:PermR w gp R P pr) (hin:(row,pos)∈pr):
 Calls Tryz.prog 70 #[.pointer (some ⟨gp,0,none⟩),.int .i64 (row:Int)] w fun e w'=>e=.returned (.int .i64 (pos:Int))∧Below w.heap.size w w':=by
 obtain ⟨B,ga,vl,vo,vt,vf,ks,C,tk,fr,h1,h2,h3,h4,rfl⟩:=h
 obtain ⟨k,hk,e⟩:=List.mem_map.1 hin
 injection e with e1 e2
 subst e2
 exact PermPos_some B gp ga vl vo vt vf R P ks C tk fr row k w h1 h2 (by omega) (by omega) hk e1
set_option maxRecDepth 100000 in
set_option maxHeartbeats 4000000 in
theorem LivePosG_any (Bw gl gk gp rate:Nat) (t:List UInt8) (rs:List Nat) (C:List (Nat×Nat)) (i p:Nat) (w:World) (h:LiveG w Bw gl gk gp rate (t.length+1) (lastL (symL t) rs) C) (hrt:∀x∈C,rs[x.1]?=some x.2) (hz0:∃x∈C,x.2=0) (hs:IsSuf (symL t) rs) (hn:t.length≤127) (hip:rs[i]?=some p):
 Calls Tryz.prog 34 #[.pointer (some ⟨gl,0,none⟩),.int .i64 (i:Int)] w fun e w'=>e=.returned (.int .i64 (p:Int))∧VB Bw w w':=by
 have hl:rs.length=t.length+1:=by rw [hs.len,symL_len]
 have hi:=(List.getElem?_eq_some_iff.1 hip).1
 have hL:(lastL (symL t) rs).length=t.length+1:=by rw [lastL_len,hl]
 have hpN:p < t.length+1:=by
  have:=hs.lt (List.mem_of_getElem? hip)
  rwa [symL_len] at this
 obtain ⟨N,hN⟩:∃N,t.length=N:=⟨_,rfl⟩
 have hz1:∀a:Nat,rs[a]?=some 0→(a,0)∈C:=fun a ha=>by
  obtain ⟨⟨r,q⟩,hx,e⟩:=hz0
  have e':q=0:=e
  subst e'
  have h1:rs[r]?=some 0:=hrt _ hx
  rw [row_inj hs ha h1]
  exact hx
 have hpr:∀a b b':Nat,rs[a]?=some b→(a,b')∈C→b'=b:=fun a b b' hab hm=>by
  have h1:rs[a]?=some b':=hrt _ hm
  rw [hab] at h1
  injection h1 with h1
  exact h1.symm
 have hstep:∀a b:Nat,rs[a]?=some (b+1)→∃s a',(lastL (symL t) rs)[a]?=some s∧narL (lastL (symL t) rs) s a=a'∧rs[a']?=some b:=fun a b hab=>by
  obtain ⟨ha,ea⟩:=List.getElem?_eq_some_iff.1 hab
  have hbm:b+1 < (symL t).length:=hs.lt (List.mem_of_getElem? hab)
  obtain ⟨a',ha',ea'⟩:=hs.row (p:=b) (by omega)
  have he:=symL_end t
  have hla:=lastL_at he ha ea (by rw [symL_len] at hbm;omega)
  exact ⟨(symL t).getD b 0,a',List.getElem?_eq_some_iff.2 ⟨_,hla⟩,lf hs he ha ha' ea ea',List.getElem?_eq_some_iff.2 ⟨ha',ea'⟩⟩
 rw [hN] at h
 rw [hN] at hL hpN hn hl
 have hiI:¬(N:Int) < (i:Int):=by omega
 have hi0:decide ((i:Int) < 0)=false:=by simp
 have hi2:decide ((i:Int) > (N:Int))=false:=by simp;omega
 have hi3:decide (N < i)=false:=by simp;omega
 have H:=Lib.hid h
 have Hz1:=Lib.hid hz1
 have Hpr:=Lib.hid hpr
 have Hstep:=Lib.hid hstep
 have HL:=Lib.hid hL
 have HLt:=Lib.hid (lastL_lt (symL_lt t) (rs:=rs))
 have Hip:=Lib.hid hip
 obtain ⟨mv,hblk⟩:=h.blk
 have c0:=hblk.cell 0
 have c1:=hblk.cell 1
 have hlt:=hblk.lt
 clear h hz1 hpr hz0 hrt hstep hL hs hip hi hN hl hblk
 go_enter Tryz.func34,Tryz.ntmps34
 go_wp2_with fail
 refine (LiveLen_any Bw gl _ N w H.out.lvw HL.out (by omega)).mono ?_
 rintro e w1 ⟨rfl,rfl⟩
 go_wp2_with fail
 clear c0 c1 hiI hi0 hi2 hi3
 go_loopw [1,5] (fun x y wr=>∃a b m:Nat,rs[a]?=some b∧b+m=p∧x=.int .i64 (a:Int)∧y=.int .i64 (m:Int)∧VB Bw w wr) (fun _ y _=>p+1 -(intOf y).toNat)
 case atStart=>exact ⟨i,p,0,Hip.out,rfl,rfl,rfl,VisK.refl _ _⟩
 case round=>
  obtain ⟨a,b,m,hab,hbm,rfl,rfl,hv⟩:=hrel
  have h1:=H.out.vis hv.1
  obtain ⟨mv1,hblk1⟩:=h1.blk
  have c0:=hblk1.cell 0
  have c1:=hblk1.cell 1
  have hlt1:=hblk1.lt
  have Hv:=Lib.hid hv
  have H1:=Lib.hid h1
  have Hab:=Lib.hid hab
  clear h1 hv hab hblk1
  by_cases hb0:∃b',(a,b')∈C
  · obtain ⟨b',hb1⟩:=hb0
    have hbb:=Hpr.out a b b' Hab.out hb1
    subst hbb
    have Hin:=Lib.hid hb1
    have hbI:¬(b':Int) < 0:=by omega
    have hsum:IntKind.i64.wrap ((b':Int)+(m:Int))=(p:Int):=by rw [IntKind.wrap_i64];omega
    clear hb1 hbm
    go_wp2_with fail
    refine (PermPosR_some gp (N+1) (N+1) C a b' wr H1.out.perm Hin.out).mono ?_
    rintro e w2 ⟨rfl,hb2⟩
    have h2:=H1.out.vis (Vis.of_below hb2)
    obtain ⟨mv2,hblk2⟩:=h2.blk
    have c20:=hblk2.cell 0
    have c21:=hblk2.cell 1
    have hlt2:=hblk2.lt
    have hv2:=Hv.out.below hb2
    have Hv2:=Lib.hid hv2
    have H2:=Lib.hid h2
    clear c0 c1 h2 hv2 hb2 hblk2
    go_wp2_with fail
    refine (PermPosR_some gp (N+1) (N+1) C a b' w2 H2.out.perm Hin.out).mono ?_
    rintro e w3 ⟨rfl,hb3⟩
    have hv3:=Hv2.out.below hb3
    have Hv3:=Lib.hid hv3
    clear c20 c21 hv3 hb3
    go_wp2_with fail
    go_ret
    exact ⟨rfl,Hv3.out⟩
  · have hno:∀x∈C,x.1≠a:=fun x hx e=>hb0 ⟨x.2,by rw [←e];exact hx⟩
    have Hno:=Lib.hid hno
    obtain ⟨b',rfl⟩:∃b',b=b'+1:=⟨b - 1,by
        rcases Nat.eq_zero_or_pos b with h0 | h0
        · subst h0
          exact absurd ⟨0,Hz1.out a Hab.out⟩ hb0
        · omega⟩
    obtain ⟨s,a',hs1,hs2,hs3⟩:=Hstep.out a b' Hab.out
    have Hs1:=Lib.hid hs1
    have Hs2:=Lib.hid hs2
    have Hs3:=Lib.hid hs3
    clear hno hb0 hs1 hs2 hs3
    go_wp2_with fail
    refine (PermPosR_none gp (N+1) (N+1) C a wr H1.out.perm Hno.out).mono ?_
    rintro e w2 ⟨rfl,hb2⟩
    have h2:=H1.out.vis (Vis.of_below hb2)
    obtain ⟨mv2,hblk2⟩:=h2.blk
    have c20:=hblk2.cell 0
    have c21:=hblk2.cell 1
    have hlt2:=hblk2.lt
    have hv2:=Hv.out.below hb2
    have Hv2:=Lib.hid hv2
    have H2:=Lib.hid h2
    clear c0 c1 h2 hv2 hb2 hblk2
    go_wp2_with fail
    refine (WalkBack_any Bw gk _ a s w2 H2.out.walk Hs1.out HLt.out (by rw [HL.out];omega)).mono ?_
    rintro e w3 ⟨rfl,hv3⟩
    rw [Hs2.out]
    have hv4:=Hv2.out.trans hv3
    have Hv4:=Lib.hid hv4
    clear c20 c21 hv3 hv4
    go_wp2_with fail
    go_roundw
    case rel=>exact ⟨a',b',m+1,Hs3.out,by omega,rfl,by go_num,Hv4.out⟩
    case measure=>simp [intOf];omega
end Go.Proofs.YtipaccakmndkgaaGreat
