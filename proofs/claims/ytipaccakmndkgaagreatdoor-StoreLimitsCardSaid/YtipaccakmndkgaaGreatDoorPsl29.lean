/- The walks of walk's First and On, of sym.Byte; the row of the suffix one behind. Conditions: a row that is there; symbols below 257; at most 1000; the table of math/bits stands in its variable. slices.Equal, sorted.Same and bytes.Equal of lists that are alike. No conditions. The walk of a text's Pos: where a row's suffix begins. Conditions: a text of at most 127 bytes, as New makes it. Plain laws for an edit on the transform: an order of a text's places that is right but for one of them, and the move that rights it (plain Lean). No conditions. -/
import Derived.Test.YtipaccakmndkgaaGreatDoorPsl27
import Derived.Test.YtipaccakmndkgaaGreatDoorPsl12
import Derived.Test.YtipaccakmndkgaaGreatDoorPsl26
import Derived.BigQuiet
import Derived.Test.YtipaccakmndkgaaGreatDoorPsl19
import Derived.Test.YtipaccakmndkgaaGreatDoorPsl22
import Derived.Test.YtipaccakmndkgaaGreatDoorPsl28
import Derived.Test.YtipaccakmndkgaaGreatDoorPsl2
set_option linter.unusedVariables false
set_option linter.unusedSimpArgs false
set_option maxRecDepth 100000
set_option maxHeartbeats 1000000
namespace Go.Proofs.YtipaccakmndkgaaGreatDoor
open Go.RowKit
theorem on_row {t:List UInt8} {rs:List Nat} (h:IsSuf (symL t) rs) {i j p:Nat} {c:UInt8} (hi:rs[i]?=some (p+1)) (hj:rs[j]?=some p) (hc:t[p]?=some c):
 (lastL (symL t) rs)[i]?=some (c.toNat+1)∧narL (lastL (symL t) rs) (c.toNat+1) i=j:=by
 obtain ⟨hi1,hi2⟩:=List.getElem?_eq_some_iff.1 hi
 obtain ⟨hj1,hj2⟩:=List.getElem?_eq_some_iff.1 hj
 have hp:=(List.getElem?_eq_some_iff.1 hc).1
 have hg:(symL t).getD p 0=c.toNat+1:=by
  unfold symL symB
  rw [List.getD_eq_getElem?_getD,List.getElem?_append_left (by simpa using hp),List.getElem?_map,hc]
  rfl
 have h1:=lf h (symL_end t) hi1 hj1 hi2 hj2
 have h2:=lastL_at (symL_end t) hi1 hi2 hp
 rw [hg] at h1 h2
 exact ⟨List.getElem?_eq_some_iff.2 ⟨_,h2⟩,h1⟩
theorem SymByte_any (c:UInt8) (s:Nat) (hs:s=c.toNat+1) (w:World):
 Calls Tryz.prog 163 #[.int .i64 (s:Int)] w fun e w'=>e=.returned (.tuple #[bv c,.bool true])∧Below w.heap.size w w':=by
 have hc:=c.toNat_lt
 have e0:¬((s:Int)=0):=by omega
 have e1:((s:Int)==0)=false:=by rw [beq_eq_false_iff_ne];omega
 have e2:IntKind.i64.wrap ((s:Int) - 1)=(c.toNat:Int):=by rw [IntKind.wrap_i64];omega
 have e3:IntKind.u8.wrap (c.toNat:Int)=(c.toNat:Int):=by rw [IntKind.wrap_u8];omega
 have e4:¬s=0:=by omega
 have e5:decide (s=0)=false:=decide_eq_false e4
 have hs257:s < 257:=by omega
 clear hs hc
 go_enter Tryz.func163,Tryz.ntmps163
 go_wp2_with fail
 refine (SymIs_any s w hs257).mono ?_
 rintro e w1 ⟨rfl,hb⟩
 go_wp2_with fail
 go_ret2
 exact ⟨rfl,hb⟩
theorem EqInts_any (A A2:Option Addr) (n c c2 B:Nat) (L:List Nat) (w:World) (hr:Rd w B 1 A n (L.map sv)) (hr2:Rd w B 1 A2 n (L.map sv)) (hB:B≤w.heap.size) (hn:n≤1099511627776):
 Calls Tryz.prog 110 #[.slice A n c,.slice A2 n c2] w fun e w'=>e=.returned (.bool true)∧Below w.heap.size w w':=by
 have hbl:L.length=n:=by have:=hr.1;simpa using this
 have H:=lhd hr
 have H2:=lhd hr2
 clear hr hr2
 go_enter Tryz.func110,Tryz.ntmps110
 go_wp2_with fail
 go_loopw [13] (fun i wr=>∃k:Nat,k≤n∧i=.int .i64 (k:Int)∧Below w.heap.size w wr) (fun i _=>n -(intOf i).toNat)
 case atStart=>exact ⟨0,by omega,rfl,Below.refl _ _⟩
 case round=>
  obtain ⟨k,hk,rfl,hb⟩:=hrel
  by_cases hlt:k < n
  · obtain ⟨b1,o1,u,rfl,hb1,hu,hc1⟩:=(H.out.below (hb.mono hB)).get hlt
    obtain ⟨b2,o2,u2,rfl,hb2,hu2,hc2⟩:=(H2.out.below (hb.mono hB)).get hlt
    obtain ⟨x,hx⟩:∃x,L[k]?=some x:=⟨_,List.getElem?_eq_getElem (by omega)⟩
    rw [List.getElem?_map,hx] at hu hu2
    injection hu with hu
    injection hu2 with hu2
    subst hu hu2
    unfold sv at hc1 hc2
    go_wp2_with fail
    go_quiet (fail)
    go_wp2_with fail
    go_roundw
    case rel=>exact ⟨k+1,by omega,by go_num,⟨hb.os,hb.tape,hb.output,hb.size,hb.block⟩⟩
    case measure=>simp [intOf];omega
  · have hks:k=n:=by omega
    subst hks
    go_wp2_with fail
    go_ret
    exact ⟨rfl,hb⟩
theorem SortedSame_any (A A2:Option Addr) (n c c2 B:Nat) (L:List Nat) (w:World) (hr:Rd w B 1 A n (L.map sv)) (hr2:Rd w B 1 A2 n (L.map sv)) (hB:B≤w.heap.size) (hn:n≤1099511627776):
 Calls Tryz.prog 164 #[.slice A n c,.slice A2 n c2] w fun e w'=>e=.returned (.bool true)∧Below w.heap.size w w':=by
 have he:=EqInts_any A A2 n c c2 B L w hr hr2 hB hn
 clear hr hr2
 go_enter Tryz.func164,Tryz.ntmps164
 go_wp2_with fail
 refine he.mono ?_
 rintro e w1 ⟨rfl,hb⟩
 go_wp2_with fail
 go_ret
 exact ⟨rfl,hb⟩
theorem BytesEqual_any (A A2:Option Addr) (n n2 c c2 B:Nat) (l l2:List UInt8) (w:World) (hr:Rd w B 1 A n (l.map bv)) (hr2:Rd w B 1 A2 n2 (l2.map bv)):
 Calls Tryz.prog 92 #[.slice A n c,.slice A2 n2 c2] w fun e w'=>e=.returned (.bool (l==l2))∧Below w.heap.size w w':=by
 have s1:(convert 23 9 (.slice A n c)).run Tryz.prog w=.ok (.string ⟨l.toArray⟩) w:=run_str_rd (P:=Tryz.prog) 23 9 5 Tryz.underlying23 Tryz.underlying5 Tryz.underlying9 hr
 have s2:(convert 23 9 (.slice A2 n2 c2)).run Tryz.prog w=.ok (.string ⟨l2.toArray⟩) w:=run_str_rd (P:=Tryz.prog) 23 9 5 Tryz.underlying23 Tryz.underlying5 Tryz.underlying9 hr2
 obtain ⟨x1,hx1⟩:∃x:ByteArray,⟨l.toArray⟩=x:=⟨_,rfl⟩
 obtain ⟨x2,hx2⟩:∃x:ByteArray,⟨l2.toArray⟩=x:=⟨_,rfl⟩
 rw [hx1] at s1
 rw [hx2] at s2
 have e1:x1.toList=l:=by rw [←hx1,ByteArray.toList_eq]
 have e2:x2.toList=l2:=by rw [←hx2,ByteArray.toList_eq]
 clear hx1 hx2 hr hr2
 go_enter Tryz.func92,Tryz.ntmps92
 go_wp2_with fail
 go_ret
 refine ⟨?_,Below.refl _ _⟩
 rw [←e1,←e2]
 rfl
end Go.Proofs.YtipaccakmndkgaaGreatDoor
namespace Go.Proofs.YtipaccakmndkgaaGreatDoor
def inR (r c:Nat):Nat:=if c≤r then r+1 else r
def outR (r g:Nat):Nat:=if g < r then r - 1 else r
abbrev ro (R:List Nat) (p:Nat):Nat:=R.idxOf p
theorem ro_get {R:List Nat} {p:Nat} (h:p∈R):R[ro R p]?=some p:=List.getElem?_eq_some_iff.2 ⟨List.idxOf_lt_length_iff.2 h,List.getElem_idxOf _⟩
theorem ro_of {R:List Nat} (hn:R.Nodup) {r p:Nat} (h:R[r]?=some p):ro R p=r:=by
 obtain ⟨hr,e⟩:=List.getElem?_eq_some_iff.1 h
 subst e
 exact hn.idxOf_getElem r hr
theorem ro_inj {R:List Nat} {p q:Nat} (hp:p∈R) (hq:q∈R) (h:ro R p=ro R q):p=q:=by
 have h1:=ro_get hp
 rw [h,ro_get hq] at h1
 injection h1 with h1
 exact h1.symm
theorem ro_move {R:List Nat} (hn:R.Nodup) {a t x:Nat} (ha:R[a]?=some x) (ht:t < R.length):
 (insN (delN R a) t x).Perm R∧ro (insN (delN R a) t x) x=t∧∀p∈R,p≠x→ro (insN (delN R a) t x) p=inR (outR (ro R p) a) t:=by
 have hal:=(List.getElem?_eq_some_iff.1 ha).1
 have hdl:=delN_len R hal
 have hperm:(insN (delN R a) t x).Perm R:=(insN_perm _ _ _).trans (delN_perm ha)
 have hn':(insN (delN R a) t x).Nodup:=hperm.nodup_iff.2 hn
 refine ⟨hperm,?_,fun p hp hpx=>?_⟩
 · refine ro_of hn' ?_
   rw [insN_get _ _ (by omega),if_neg (by omega),if_pos rfl]
 · have h1:=ro_get hp
   have hne:ro R p≠a:=fun e=>by
    rw [e,ha] at h1
    injection h1 with h1
    exact hpx h1.symm
   refine ro_of hn' ?_
   have hlt:=(List.getElem?_eq_some_iff.1 h1).1
   rw [insN_get _ _ (by omega)]
   unfold inR outR
   by_cases c1:a < ro R p
   · rw [if_pos c1]
     by_cases c2:t≤ro R p - 1
     · rw [if_pos c2,if_neg (by omega),if_neg (by omega),delN_get _ hal,if_neg (by omega)]
       rw [←h1]
       congr 1
       omega
     · rw [if_neg c2,if_pos (by omega),delN_get _ hal,if_neg (by omega),←h1]
       congr 1
       omega
   · rw [if_neg c1]
     by_cases c2:t≤ro R p
     · rw [if_pos c2,if_neg (by omega),if_neg (by omega),delN_get _ hal,if_pos (by omega),←h1]
       congr 1
     · rw [if_neg c2,if_pos (by omega),delN_get _ hal,if_pos (by omega),←h1]
def keyR (S R:List Nat) (p q:Nat):Prop:=S.getD p 0 < S.getD q 0∨(S.getD p 0=S.getD q 0∧ro R (p+1) < ro R (q+1))
structure Near (S R:List Nat) (N i:Nat):Prop where
 endk:EndOk S N
 perm:R.Perm (List.range (N+1))
 first:∀p q,p≤N→q≤N→ro R p < ro R q→S.getD p 0≤S.getD q 0
 cons:∀p q,p≤N→q≤N→p≠q→p+1≠i→q+1≠i→(ro R p < ro R q↔keyR S R p q)
section
variable {S R : List Nat} {N i : Nat}
theorem Near.nodup (h:Near S R N i):R.Nodup:=h.perm.nodup_iff.2 List.nodup_range
theorem Near.mem (h:Near S R N i) {p:Nat}:p∈R↔p≤N:=by
 rw [h.perm.mem_iff,List.mem_range]
 omega
theorem Near.len (h:Near S R N i):R.length=N+1:=by simpa using h.perm.length_eq
theorem ltS_step {S:List Nat} {p q:Nat} (hp:p < S.length) (hq:q < S.length) (he:S.getD p 0=S.getD q 0) (h:sufLt S (p+1) (q+1)):sufLt S p q:=by
 obtain ⟨w,k,h1,h2,h3⟩:=h
 refine ⟨w+1,k+1,by omega,fun m hm=>?_,?_⟩
 · cases m with
   | zero=>
     rw [Nat.add_zero,Nat.add_zero,aN_getD hp,aN_getD hq,he]
   | succ m=>
     have:=h2 m (by omega)
     rw [show p+(m+1)=p+1+m by omega,show q+(m+1)=q+1+m by omega]
     exact this
 · rw [show p+(k+1)=p+1+k by omega,show q+(k+1)=q+1+k by omega]
   exact h3
theorem ltS_now {S:List Nat} {p q:Nat} (hp:p < S.length) (hq:q < S.length) (he:S.getD p 0 < S.getD q 0):sufLt S p q:=by
 refine ⟨1,0,by omega,fun m hm=>by omega,?_⟩
 rw [Nat.add_zero,Nat.add_zero,aN_getD hp,aN_getD hq]
 omega
theorem Near.sorted (h:Near S R N 0):IsSuf S R:=by
 obtain ⟨e1,e2,e3⟩:=h.endk
 have key:∀d p q,N < p+d→p≤N→q≤N→p≠q→ro R p < ro R q→sufLt S p q:=by
  intro d
  induction d with
  | zero=>intro p q hd hp;omega
  | succ d ih=>
    intro p q hd hp hq hpq hlt
    rcases (h.cons p q hp hq hpq (by omega) (by omega)).1 hlt with h1 |⟨h1,h2⟩
    · exact ltS_now (by omega) (by omega) h1
    · have hpN:p≠N:=fun e=>by
       subst e
       have:=e3 q (by omega)
       omega
      have hqN:q≠N:=fun e=>by
       subst e
       have:=e3 p (by omega)
       omega
      exact ltS_step (by omega) (by omega) h1 (ih (p+1) (q+1) (by omega) (by omega) (by omega) (by omega) h2)
 refine ⟨by rw [e1];exact h.perm,?_⟩
 rw [List.pairwise_iff_getElem]
 intro a b ha hb hab
 have hn:=h.nodup
 have hpa:R[a]≤N:=h.mem.1 (List.getElem_mem ha)
 have hpb:R[b]≤N:=h.mem.1 (List.getElem_mem hb)
 have ra:ro R R[a]=a:=ro_of hn (List.getElem?_eq_getElem ha)
 have rb:ro R R[b]=b:=ro_of hn (List.getElem?_eq_getElem hb)
 exact key (N+1) _ _ (by omega) hpa hpb (fun e=>by rw [e,rb] at ra;omega) (by rw [ra,rb];exact hab)
theorem IsSuf.near (h:IsSuf S R) (he:EndOk S N):Near S R N 0:=by
 obtain ⟨e1,e2,e3⟩:=he
 have hperm:R.Perm (List.range (N+1)):=by rw [←e1];exact h.perm
 have hn:=h.nodup
 have hm:∀p,p≤N→p∈R:=fun p hp=>h.mem (by omega)
 have hs:∀p q,p≤N→q≤N→ro R p < ro R q→sufLt S p q:=fun p q hp hq hlt=>by
  have hpl:=(List.getElem?_eq_some_iff.1 (ro_get (hm p hp)))
  have hql:=(List.getElem?_eq_some_iff.1 (ro_get (hm q hq)))
  obtain ⟨h1,h2⟩:=hpl
  obtain ⟨h3,h4⟩:=hql
  have:=List.pairwise_iff_getElem.1 h.sorted _ _ h1 h3 hlt
  rwa [h2,h4] at this
 have hs2:∀p q,p≤N→q≤N→sufLt S p q→ro R p < ro R q:=fun p q hp hq hlt=>by
  rcases Nat.lt_trichotomy (ro R p) (ro R q) with h1 | h1 | h1
  · exact h1
  · have:=ro_inj (hm p hp) (hm q hq) h1
    subst this
    exact (hlt.asymm hlt).elim
  · exact (hlt.asymm (hs q p hq hp h1)).elim
 have hk:∀p q,p≤N→q≤N→sufLt S p q→S.getD p 0≤S.getD q 0:=fun p q hp hq ⟨w,k,h1,h2,h3⟩=>by
  cases k with
  | zero=>
    rw [Nat.add_zero,Nat.add_zero,aN_getD (by omega),aN_getD (by omega)] at h3
    omega
  | succ k=>
    have:=h2 0 (by omega)
    rw [Nat.add_zero,Nat.add_zero,aN_getD (by omega),aN_getD (by omega)] at this
    omega
 have hk2:∀p q,p≤N→q≤N→p≠q→S.getD p 0=S.getD q 0→(sufLt S p q↔sufLt S (p+1) (q+1)):=fun p q hp hq hpq heq=>by
  constructor
  · rintro ⟨w,k,h1,h2,h3⟩
    cases k with
    | zero=>
      rw [Nat.add_zero,Nat.add_zero,aN_getD (by omega),aN_getD (by omega)] at h3
      omega
    | succ k=>
      refine ⟨k+1,k,by omega,fun m hm=>?_,?_⟩
      · have:=h2 (m+1) (by omega)
        rw [show p+1+m=p+(m+1) by omega,show q+1+m=q+(m+1) by omega]
        exact this
      · rw [show p+1+k=p+(k+1) by omega,show q+1+k=q+(k+1) by omega]
        exact h3
  · exact ltS_step (by omega) (by omega) heq
 refine ⟨⟨e1,e2,e3⟩,hperm,fun p q hp hq hlt=>hk p q hp hq (hs p q hp hq hlt),fun p q hp hq hpq _ _=>?_⟩
 unfold keyR
 constructor
 · intro hlt
   have h1:=hs p q hp hq hlt
   rcases Nat.lt_or_eq_of_le (hk p q hp hq h1) with h2 | h2
   · exact .inl h2
   · refine .inr ⟨h2,?_⟩
     have hpN:p≠N:=fun e=>by
        subst e
        have:=e3 q (by omega)
        omega
     have hqN:q≠N:=fun e=>by
        subst e
        have:=e3 p (by omega)
        omega
     exact hs2 _ _ (by omega) (by omega) ((hk2 p q hp hq hpq h2).1 h1)
 · rintro (h1 |⟨h1,h2⟩)
   · exact hs2 p q hp hq (ltS_now (by omega) (by omega) h1)
   · have hpN:p≠N:=fun e=>by
        subst e
        have:=e3 q (by omega)
        omega
     have hqN:q≠N:=fun e=>by
        subst e
        have:=e3 p (by omega)
        omega
     exact hs2 p q hp hq ((hk2 p q hp hq hpq h1).2 (hs _ _ (by omega) (by omega) h2))
def kcnt (S R:List Nat) (N c r:Nat):Nat:=(List.range (N+1)).countP fun p=>decide (S.getD p 0 < c∨(S.getD p 0=c∧ro R (p+1) < r))
theorem take_cntP {R:List Nat} (hn:R.Nodup) (r:Nat) (f:Nat→Bool):(R.take r).countP f=R.countP fun p=>f p&&decide (ro R p < r):=by
 have h1:R.countP (fun p=>f p&&decide (ro R p < r))=(R.take r).countP (fun p=>f p&&decide (ro R p < r))+(R.drop r).countP (fun p=>f p&&decide (ro R p < r)):=by
  rw [←List.countP_append,List.take_append_drop]
 have h2:(R.drop r).countP (fun p=>f p&&decide (ro R p < r))=0:=by
  rw [List.countP_eq_zero]
  intro p hp
  obtain ⟨j,hj,e⟩:=List.mem_iff_getElem.1 hp
  rw [List.getElem_drop] at e
  have:ro R p=r+j:=ro_of hn (by rw [←e];exact List.getElem?_eq_getElem _)
  simp
  omega
 have h3:(R.take r).countP (fun p=>f p&&decide (ro R p < r))=(R.take r).countP f:=by
  refine List.countP_congr fun p hp=>?_
  obtain ⟨j,hj,e⟩:=List.mem_iff_getElem.1 hp
  rw [List.length_take] at hj
  rw [List.getElem_take] at e
  have:ro R p=j:=ro_of hn (by rw [←e];exact List.getElem?_eq_getElem _)
  have hjr:ro R p < r:=by omega
  simp [hjr]
 rw [h1,h2,h3]
 rfl
theorem countP_split {l:List Nat} {f g:Nat→Bool} (h:∀x∈l,¬(f x=true∧g x=true)):l.countP f+l.countP g=l.countP fun x=>f x||g x:=by
 induction l with
 | nil=>rfl
 | cons x l ih=>
   have hx:=h x (by simp)
   rw [List.countP_cons,List.countP_cons,List.countP_cons,←ih fun y hy=>h y (by simp [hy])]
   cases hf:f x <;> cases hg:g x <;> simp_all <;> omega
theorem narL_cnt (he:EndOk S N) (hp:R.Perm (List.range (N+1))) {c:Nat} (hc:0 < c) (r:Nat):narL (lastL S R) c r=kcnt S R N c r:=by
 obtain ⟨e1,e2,e3⟩:=he
 have hn:R.Nodup:=hp.nodup_iff.2 List.nodup_range
 unfold narL kcnt
 have h1:(lastL S R).countP (fun x=>decide (x < c))=(List.range (N+1)).countP fun p=>decide (S.getD p 0 < c):=by
  unfold lastL
  rw [List.countP_map,hp.countP_eq]
  refine count_prev _ _ ?_ fun p hp=>?_
  · simp only [Function.comp]
    rw [prevL_zero (by omega),e1]
    rfl
  · simp only [Function.comp]
    rw [prevL_succ (by omega)]
 have h2:((lastL S R).take r).count c=(List.range (N+1)).countP fun p=>decide (S.getD p 0=c)&&decide (ro R (p+1) < r):=by
  unfold lastL
  rw [←List.map_take,List.count_eq_countP,List.countP_map,take_cntP hn,hp.countP_eq]
  refine count_prev _ _ ?_ fun p hp=>?_
  · simp only [Function.comp]
    rw [prevL_zero (by omega),e1]
    have:(N+1 - 1)=N:=by omega
    rw [this,e2]
    have hc0:¬(0:Nat)=c:=by omega
    simp [hc0]
  · simp only [Function.comp]
    rw [prevL_succ (by omega)]
    rfl
 rw [h1,h2,countP_split]
 · refine List.countP_congr fun p _=>?_
   simp
 · intro p _ ⟨ha,hb⟩
   simp at ha hb
   omega
theorem pre_lt {K:Nat→Bool}:∀ {O:List Nat},O.Pairwise (fun p q=>K q=true→K p=true)→∀(j p:Nat),O[j]?=some p→(K p=true↔j < O.countP K)
 | [],_,j,p,h=>by simp at h
 | x::O,hO,j,p,h=>by
   obtain ⟨h1,h2⟩:=List.pairwise_cons.1 hO
   cases hx:K x with
   | true=>
     rw [List.countP_cons_of_pos hx]
     cases j with
     | zero=>
       injection h with h
       subst h
       simp [hx]
     | succ j=>
       rw [pre_lt h2 j p h]
       omega
   | false=>
     have h0:(x::O).countP K=0:=by
        rw [List.countP_eq_zero]
        intro y hy
        rcases List.mem_cons.1 hy with rfl | hy
        · simp [hx]
        · intro hk
          have:=h1 y hy hk
          rw [hx] at this
          cases this
     rw [h0]
     have hp:p∈x::O:=List.mem_of_getElem? h
     have:=(List.countP_eq_zero.1 h0) p hp
     simp [this]
def KB (S R:List Nat) (i p:Nat):Bool:=decide (S.getD p 0 < S.getD i 0∨(S.getD p 0=S.getD i 0∧ro R (p+1) < ro R (i+1)))
theorem kcnt_lt (h:Near S R N (i+1)) (hi:i≤N):∀p,p≤N→p≠i→(KB S R i p=true↔outR (ro R p) (ro R i) < kcnt S R N (S.getD i 0) (ro R (i+1))):=by
 intro p hp hpi
 have hn:=h.nodup
 have hgi:=ro_get (h.mem.2 hi)
 have hgp:=ro_get (h.mem.2 hp)
 have hil:=(List.getElem?_eq_some_iff.1 hgi).1
 have hperm:=delN_perm hgi
 have hnd:(delN R (ro R i)).Nodup:=(List.nodup_cons.1 (hperm.nodup_iff.2 hn)).2
 have hne:ro R p≠ro R i:=fun e=>hpi (ro_inj (h.mem.2 hp) (h.mem.2 hi) e)
 have hat:(delN R (ro R i))[outR (ro R p) (ro R i)]?=some p:=by
  unfold outR
  rw [delN_get _ hil]
  by_cases c:ro R i < ro R p
  · rw [if_pos c,if_neg (by omega),←hgp]
    congr 1
    omega
  · rw [if_neg c,if_pos (by omega),←hgp]
 have hcnt:kcnt S R N (S.getD i 0) (ro R (i+1))=(delN R (ro R i)).countP (KB S R i):=by
  unfold kcnt
  rw [←h.perm.countP_eq,←hperm.countP_eq,List.countP_cons]
  have h0:decide (S.getD i 0 < S.getD i 0∨(S.getD i 0=S.getD i 0∧ro R (i+1) < ro R (i+1)))=false:=by
   rw [decide_eq_false_iff_not]
   omega
  rw [h0]
  rfl
 rw [hcnt]
 refine pre_lt ?_ _ _ hat
 rw [List.pairwise_iff_getElem]
 intro a b ha hb hab hkb
 have hda:(delN R (ro R i))[a]?=some (delN R (ro R i))[a]:=List.getElem?_eq_getElem ha
 have hdb:(delN R (ro R i))[b]?=some (delN R (ro R i))[b]:=List.getElem?_eq_getElem hb
 obtain ⟨x,hx⟩:∃x,(delN R (ro R i))[a]=x:=⟨_,rfl⟩
 obtain ⟨y,hy⟩:∃y,(delN R (ro R i))[b]=y:=⟨_,rfl⟩
 rw [hx] at hda⊢
 rw [hy] at hdb hkb
 have hni:=(List.nodup_cons.1 (hperm.nodup_iff.2 hn)).1
 have hma:=List.mem_of_getElem? hda
 have hmb:=List.mem_of_getElem? hdb
 have hxi:x≠i:=fun e=>hni (by rw [e] at hma;exact hma)
 have hyi:y≠i:=fun e=>hni (by rw [e] at hmb;exact hmb)
 have hxR:x∈R:=hperm.subset (by simp [List.mem_of_getElem? hda])
 have hyR:y∈R:=hperm.subset (by simp [List.mem_of_getElem? hdb])
 have hxN:=h.mem.1 hxR
 have hyN:=h.mem.1 hyR
 have rx:∀ {a' x':Nat},(delN R (ro R i))[a']?=some x'→ro R x'=if a' < ro R i then a' else a'+1:=fun {a' x'} hh=>by
  rw [delN_get _ hil] at hh
  split at hh
  · rw [if_pos (by assumption)]
    exact ro_of hn hh
  · rw [if_neg (by assumption)]
    exact ro_of hn hh
 have hlt:ro R x < ro R y:=by
  rw [rx hda,rx hdb]
  split <;> split <;> omega
 have hxy:x≠y:=fun e=>by
  subst e
  omega
 have hk:=(h.cons x y hxN hyN hxy (by omega) (by omega)).1 hlt
 unfold KB at hkb⊢
 rw [decide_eq_true_eq] at hkb⊢
 unfold keyR at hk
 omega
def tgt (S R:List Nat) (i:Nat):Nat:=narL (lastL S R) (S.getD i 0) (ro R (i+1))
theorem tgt_eq (h:Near S R N (i+1)) (hi:i < N):tgt S R i=kcnt S R N (S.getD i 0) (ro R (i+1)):=narL_cnt h.endk h.perm (h.endk.pos i hi) _
theorem tgt_lt (h:Near S R N (i+1)) (hi:i < N):tgt S R i < N+1:=by
 rw [tgt_eq h hi]
 unfold kcnt
 have hb:(List.range (N+1)).countP (fun p=>decide (S.getD p 0 < S.getD i 0∨(S.getD p 0=S.getD i 0∧ro R (p+1) < ro R (i+1))))≠(List.range (N+1)).length:=fun e=>by
  have:=(List.countP_eq_length.1 e) i (by simp;omega)
  rw [decide_eq_true_eq] at this
  omega
 have hle:=List.countP_le_length (p:=fun p=>decide (S.getD p 0 < S.getD i 0∨(S.getD p 0=S.getD i 0∧ro R (p+1) < ro R (i+1)))) (l:=List.range (N+1))
 rw [List.length_range] at hb hle
 omega
theorem near_go (h:Near S R N (i+1)) (hi:i < N) {R':List Nat} {t:Nat} (ht:t=tgt S R i) (hp':R'.Perm R) (hi':ro R' i=t) (ho:∀p∈R,p≠i→ro R' p=inR (outR (ro R p) (ro R i)) t) (j:Nat) (hj:j=i∨(ro R i=t∧j=0)):Near S R' N j:=by
 have hk:=kcnt_lt h (by omega)
 rw [←tgt_eq h hi,←ht] at hk
 have hmem:∀p,p≤N→p∈R:=fun p hp=>h.mem.2 hp
 have hne:∀p,p≤N→p≠i→ro R p≠ro R i:=fun p hp hpi e=>hpi (ro_inj (hmem p hp) (hmem i (by omega)) e)
 have hord:∀p q,p≤N→q≤N→p≠i→q≠i→(ro R' p < ro R' q↔ro R p < ro R q):=fun p q hp hq hpi hqi=>by
  rw [ho p (hmem p hp) hpi,ho q (hmem q hq) hqi]
  have h1:=hne p hp hpi
  have h2:=hne q hq hqi
  unfold inR outR
  split <;> split <;> split <;> split <;> omega
 have hbef:∀p,p≤N→p≠i→(ro R' p < ro R' i↔KB S R i p=true):=fun p hp hpi=>by
  rw [hk p hp hpi,hi',ho p (hmem p hp) hpi]
  unfold inR
  split <;> omega
 have haft:∀p,p≤N→p≠i→(ro R' i < ro R' p↔¬KB S R i p=true):=fun p hp hpi=>by
  rw [hk p hp hpi,hi',ho p (hmem p hp) hpi]
  unfold inR
  split <;> omega
 have hsucc:∀p,p < N→p≠i→(p+1≠i∨ro R i=t)→(ro R (p+1) < ro R (i+1)↔ro R' (p+1) < ro R' (i+1)):=fun p hp hpi hc=>by
  rcases hc with hc | hc
  · exact (hord (p+1) (i+1) (by omega) (by omega) hc (by omega)).symm
  · have he:∀q,q≤N→ro R' q=ro R q:=fun q hq=>by
        by_cases hqi:q=i
        · subst hqi
          omega
        · rw [ho q (hmem q hq) hqi,hc]
          have:=hne q hq hqi
          unfold inR outR
          split <;> split <;> omega
    rw [he _ (by omega),he _ (by omega)]
 obtain ⟨e1,e2,e3⟩:=h.endk
 refine ⟨h.endk,hp'.trans h.perm,fun p q hp hq hlt=>?_,fun p q hp hq hpq hpj hqj=>?_⟩
 · by_cases hpi:p=i
   · subst hpi
     by_cases hqi:q=p
     · subst hqi
       omega
     · have:=(haft q hq hqi).1 hlt
       unfold KB at this
       rw [decide_eq_true_eq] at this
       omega
   · by_cases hqi:q=i
     · subst hqi
       have:=(hbef p hp hpi).1 hlt
       unfold KB at this
       rw [decide_eq_true_eq] at this
       omega
     · exact h.first p q hp hq ((hord p q hp hq hpi hqi).1 hlt)
 · have hend:∀x y,x≤N→y≤N→x≠y→S.getD x 0=S.getD y 0→x < N∧y < N:=fun x y hx hy hxy hxye=>by
    refine ⟨Nat.lt_of_le_of_ne hx fun e=>?_,Nat.lt_of_le_of_ne hy fun e=>?_⟩
    · subst e
      have:=e3 y (by omega)
      omega
    · subst e
      have:=e3 x (by omega)
      omega
   by_cases hpi:p=i
   · subst hpi
     have hqi:q≠p:=fun e=>hpq e.symm
     rw [haft q hq hqi]
     unfold KB keyR
     rw [decide_eq_true_eq]
     by_cases hee:S.getD q 0=S.getD p 0
     · obtain ⟨hx1,hx2⟩:=hend q p hq hp hqi hee
       have:=hsucc q hx1 hqi (by omega)
       have hneq:ro R (q+1)≠ro R (p+1):=fun e=>hqi (by have:=ro_inj (hmem (q+1) (by omega)) (hmem (p+1) (by omega)) e;omega)
       have hneq':ro R' (q+1)≠ro R' (p+1):=fun e=>hqi (by have:=ro_inj ((hp'.trans h.perm).mem_iff.2 (by simp;omega)) ((hp'.trans h.perm).mem_iff.2 (by simp;omega)) e;omega)
       omega
     · omega
   · by_cases hqi:q=i
     · subst hqi
       rw [hbef p hp hpi]
       unfold KB keyR
       rw [decide_eq_true_eq]
       by_cases hee:S.getD p 0=S.getD q 0
       · obtain ⟨hx1,hx2⟩:=hend p q hp hq hpi hee
         have:=hsucc p hx1 hpi (by omega)
         omega
       · omega
     · rw [hord p q hp hq hpi hqi,h.cons p q hp hq hpq (by omega) (by omega)]
       unfold keyR
       by_cases hee:S.getD p 0=S.getD q 0
       · obtain ⟨hx1,hx2⟩:=hend p q hp hq hpq hee
         by_cases hz:ro R i=t
         · have he:∀q,q≤N→ro R' q=ro R q:=fun q hq=>by
            by_cases hqi:q=i
            · subst hqi
              omega
            · rw [ho q (hmem q hq) hqi,hz]
              have:=hne q hq hqi
              unfold inR outR
              split <;> split <;> omega
           rw [he _ (by omega),he _ (by omega)]
         · rw [hord (p+1) (q+1) (by omega) (by omega) (by omega) (by omega)]
       · omega
end
end Go.Proofs.YtipaccakmndkgaaGreatDoor
