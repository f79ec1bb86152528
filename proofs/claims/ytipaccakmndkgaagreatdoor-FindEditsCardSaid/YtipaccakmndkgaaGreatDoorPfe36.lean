/- Plain laws for an edit: the next row that may stand wrong, the start behind an insert and a delete (plain Lean). No conditions. Texts as find's functions see them: New, Rows, Count; lists of parts. Conditions: a text of at most 127 bytes. The sampled pairs that own their blocks (PermE); the walks of RowIn and PosIn. Conditions: rows and places in order; at most 1000 numbers. -/
import Derived.Test.YtipaccakmndkgaaGreatDoorPfe34
import Derived.Test.YtipaccakmndkgaaGreatDoorPfe24
import Derived.Test.YtipaccakmndkgaaGreatDoorPfe25
import Derived.Test.YtipaccakmndkgaaGreatDoorPfe35
namespace Go.Proofs.YtipaccakmndkgaaGreatDoor
set_option linter.unusedVariables false
set_option linter.unusedSimpArgs false
theorem countP_but {l:List Nat} (hn:l.Nodup) {x:Nat} (hx:x∈l) {f g:Nat→Bool} (h:∀y∈l,y≠x→f y=g y):l.countP f+(if g x then 1 else 0)=l.countP g+(if f x then 1 else 0):=by
 have hp:=List.perm_cons_erase hx
 have hn2:=hp.nodup_iff.1 hn
 have e:(l.erase x).countP f=(l.erase x).countP g:=List.countP_congr fun y hy=>by
  rw [h y (List.mem_of_mem_erase hy) (fun e=>(List.nodup_cons.1 hn2).1 (e ▸ hy))]
 rw [hp.countP_eq,hp.countP_eq,List.countP_cons,List.countP_cons,e]
 omega
theorem ro_cnt {R:List Nat} (hn:R.Nodup) {y:Nat} (hy:y∈R):R.countP (fun p=>decide (ro R p < ro R y))=ro R y:=by
 have h:=take_cntP hn (ro R y) (fun _=>true)
 have h2:(R.take (ro R y)).countP (fun _=>true)=(R.take (ro R y)).length:=List.countP_eq_length.2 fun _ _=>rfl
 rw [h2,List.length_take] at h
 have hl:ro R y < R.length:=List.idxOf_lt_length_iff.2 hy
 rw [Nat.min_eq_left (by omega)] at h
 simp only [Bool.true_and] at h
 exact h.symm
def besN (n cur a:Nat):Nat:=let m:=if cur < a then n - 1 else n;if a≤m then m+1 else m
section
variable {S R : List Nat} {N i : Nat}
theorem next_row (h:Near S R N (i+2)) (hi:i+1 < N):(if S.getD (i+1) 0=S.getD i 0 then besN (narL (lastL S R) (S.getD i 0) (ro R (i+1))) (ro R (i+2)) (ro R (i+1)) else narL (lastL S R) (S.getD i 0) (ro R (i+1)))=ro R i∧
 (S.getD (i+1) 0=S.getD i 0→ro R (i+2) < ro R (i+1)→0 < narL (lastL S R) (S.getD i 0) (ro R (i+1))):=by
 have hn:=h.nodup
 have hm:∀p,p≤N→p∈R:=fun p hp=>h.mem.2 hp
 have hne:∀p q,p≤N→q≤N→p≠q→ro R p≠ro R q:=fun p q hp hq hpq e=>hpq (ro_inj (hm p hp) (hm q hq) e)
 have hd:=h.endk.pos i (by omega)
 rw [narL_cnt h.endk h.perm hd]
 have c1:(List.range (N+1)).countP (fun p=>decide (ro R p < ro R i))=ro R i:=by
  rw [←h.perm.countP_eq]
  exact ro_cnt hn (hm i (by omega))
 have hcons:∀y∈List.range (N+1),y≠i+1→decide (ro R y < ro R i)=decide (S.getD y 0 < S.getD i 0∨(S.getD y 0=S.getD i 0∧ro R (y+1) < ro R (i+1))):=fun y hy hyi=>by
  rw [List.mem_range] at hy
  rw [decide_eq_decide]
  by_cases hy2:y=i
  · subst hy2
    omega
  · exact h.cons y i (by omega) (by omega) hy2 (by omega) (by omega)
 have hb:=countP_but List.nodup_range (x:=i+1) (by simp;omega) hcons
 rw [c1] at hb
 unfold kcnt
 generalize hn0:List.countP (fun p=>decide (S.getD p 0 < S.getD i 0∨(S.getD p 0=S.getD i 0∧ro R (p+1) < ro R (i+1)))) (List.range (N+1))=n0 at hb⊢
 have hia:=hne i (i+1) (by omega) (by omega) (by omega)
 have hca:=hne (i+2) (i+1) (by omega) (by omega) (by omega)
 have f1:=h.first (i+1) i (by omega) (by omega)
 have f2:=h.first i (i+1) (by omega) (by omega)
 simp only [decide_eq_true_eq,show i+1+1=i+2 by omega] at hb
 by_cases he:S.getD (i+1) 0=S.getD i 0
 · have e1:(S.getD (i+1) 0 < S.getD i 0∨(S.getD (i+1) 0=S.getD i 0∧ro R (i+2) < ro R (i+1)))↔ro R (i+2) < ro R (i+1):=by omega
   simp only [e1] at hb
   rw [if_pos he]
   unfold besN
   refine ⟨?_,fun _ hlt=>?_⟩
   · by_cases q1:ro R (i+2) < ro R (i+1)
     · rw [if_pos q1] at hb
       simp only [if_pos q1]
       split at hb <;> split <;> omega
     · rw [if_neg q1] at hb
       simp only [if_neg q1]
       split at hb <;> split <;> omega
   · rw [if_pos hlt] at hb
     split at hb <;> omega
 · have e1:(S.getD (i+1) 0 < S.getD i 0∨(S.getD (i+1) 0=S.getD i 0∧ro R (i+2) < ro R (i+1)))↔ro R (i+1) < ro R i:=by omega
   simp only [e1] at hb
   rw [if_neg he]
   exact ⟨by omega,fun e=>absurd e he⟩
def sh (k p:Nat):Nat:=if p < k then p else p+1
theorem sh_inj {k p q:Nat} (h:sh k p=sh k q):p=q:=by unfold sh at h;split at h <;> split at h <;> omega
theorem sh_ne (k p:Nat):sh k p≠k:=by unfold sh;split <;> omega
theorem sh_onto {k q:Nat} (h:q≠k):∃p,sh k p=q:=by
 by_cases c:q < k
 · exact ⟨q,by unfold sh;rw [if_pos c]⟩
 · exact ⟨q - 1,by unfold sh;rw [if_neg (by omega)];omega⟩
theorem insN_gD (l:List Nat) {k:Nat} (x:Nat) (h:k≤l.length) (j:Nat):(insN l k x).getD j 0=if j < k then l.getD j 0 else if j=k then x else l.getD (j - 1) 0:=by
 rw [List.getD_eq_getElem?_getD,insN_get l x h]
 split
 · rw [List.getD_eq_getElem?_getD]
 · split
   · rfl
   · rw [List.getD_eq_getElem?_getD]
theorem delN_gD (l:List Nat) {k:Nat} (h:k < l.length) (j:Nat):(delN l k).getD j 0=if j < k then l.getD j 0 else l.getD (j+1) 0:=by
 rw [List.getD_eq_getElem?_getD,delN_get l h]
 split
 · rw [List.getD_eq_getElem?_getD]
 · rw [List.getD_eq_getElem?_getD]
theorem ins_sh (l:List Nat) {k:Nat} (x p:Nat) (h:k≤l.length):(insN l k x).getD (sh k p) 0=l.getD p 0:=by
 rw [insN_gD l x h]
 by_cases c:p < k
 · rw [show sh k p=p by unfold sh;rw [if_pos c],if_pos c]
 · rw [show sh k p=p+1 by unfold sh;rw [if_neg c],if_neg (by omega),if_neg (by omega),Nat.add_sub_cancel]
theorem ins_at (l:List Nat) {k:Nat} (x:Nat) (h:k≤l.length):(insN l k x).getD k 0=x:=by
 rw [insN_gD l x h,if_neg (by omega),if_pos rfl]
theorem ro_ins {R:List Nat} (hn:R.Nodup) {at_ row:Nat} (hr:row≤R.length):ro (insN (R.map (sh at_)) row at_) at_=row∧(∀p∈R,ro (insN (R.map (sh at_)) row at_) (sh at_ p)=inR (ro R p) row)∧(insN (R.map (sh at_)) row at_).Nodup:=by
 have hl:row≤(R.map (sh at_)).length:=by simpa using hr
 have hnd:(insN (R.map (sh at_)) row at_).Nodup:=by
  rw [(insN_perm _ _ _).nodup_iff,List.nodup_cons]
  refine ⟨fun hm=>?_,List.pairwise_map.2 (hn.imp fun h1 h2=>h1 (sh_inj h2))⟩
  obtain ⟨p,_,e⟩:=List.mem_map.1 hm
  exact sh_ne _ _ e
 refine ⟨ro_of hnd ?_,fun p hp=>ro_of hnd ?_,hnd⟩
 · rw [insN_get _ _ hl,if_neg (by omega),if_pos rfl]
 · rw [insN_get _ _ hl]
   have hg:=ro_get hp
   unfold inR
   by_cases c:row≤ro R p
   · rw [if_pos c,if_neg (by omega),if_neg (by omega),Nat.add_sub_cancel,List.getElem?_map,hg]
     rfl
   · rw [if_neg c,if_pos (by omega),List.getElem?_map,hg]
     rfl
theorem ins_end (h:EndOk S N) {at_ s:Nat} (ha:at_≤N) (hs:0 < s):EndOk (insN S at_ s) (N+1):=by
 obtain ⟨e1,e2,e3⟩:=h
 refine ⟨by rw [insN_len _ _ (by omega),e1],?_,fun p hp=>?_⟩
 · rw [insN_gD _ _ (by omega),if_neg (by omega),if_neg (by omega),Nat.add_sub_cancel,e2]
 · rw [insN_gD _ _ (by omega)]
   split
   · exact e3 p (by omega)
   · split
     · exact hs
     · exact e3 _ (by omega)
theorem perm_ins {R:List Nat} (hp:R.Perm (List.range (N+1))) {at_:Nat} (row:Nat) (ha:at_≤N):(insN (R.map (sh at_)) row at_).Perm (List.range (N+1+1)):=by
 refine (List.perm_ext_iff_of_nodup ?_ List.nodup_range).2 fun q=>?_
 · rw [(insN_perm _ _ _).nodup_iff,List.nodup_cons]
   refine ⟨fun hm=>?_,List.pairwise_map.2 ((hp.nodup_iff.2 List.nodup_range).imp fun h1 h2=>h1 (sh_inj h2))⟩
   obtain ⟨p,_,e⟩:=List.mem_map.1 hm
   exact sh_ne _ _ e
 · rw [(insN_perm _ _ _).mem_iff,List.mem_cons,List.mem_map,List.mem_range]
   constructor
   · rintro (rfl |⟨p,hpm,rfl⟩)
     · omega
     · have:=List.mem_range.1 (hp.mem_iff.1 hpm)
       unfold sh
       split <;> omega
   · intro hq
     by_cases c:q=at_
     · exact .inl c
     · obtain ⟨p,rfl⟩:=sh_onto c
       refine .inr ⟨p,hp.mem_iff.2 (List.mem_range.2 ?_),rfl⟩
       unfold sh at hq c
       split at hq <;> omega
theorem near_ins (h0:IsSuf S R) (he:EndOk S N) {at_ s:Nat} (ha:at_≤N) (hs:0 < s):narL (lastL S R) s (ro R at_)≤R.length∧Near (insN S at_ s) (insN (R.map (sh at_)) (narL (lastL S R) s (ro R at_)) at_) (N+1) at_:=by
 have h:=h0.near he
 have hn:=h.nodup
 have hm:∀p,p≤N→p∈R:=fun p hp=>h.mem.2 hp
 obtain ⟨row,hrow⟩:∃row,narL (lastL S R) s (ro R at_)=row:=⟨_,rfl⟩
 have hcnt:R.countP (fun p=>decide (S.getD p 0 < s∨(S.getD p 0=s∧ro R (p+1) < ro R at_)))=row:=by
  rw [←hrow,narL_cnt he h.perm hs,h.perm.countP_eq]
  rfl
 rw [hrow]
 have hle:row≤R.length:=by rw [←hcnt];exact List.countP_le_length
 have hpre:∀p,p≤N→(decide (S.getD p 0 < s∨(S.getD p 0=s∧ro R (p+1) < ro R at_))=true↔ro R p < row):=fun p hp=>by
  rw [←hcnt]
  refine pre_lt (K:=fun p=>decide (S.getD p 0 < s∨(S.getD p 0=s∧ro R (p+1) < ro R at_))) ?_ _ _ (ro_get (hm p hp))
  rw [List.pairwise_iff_getElem]
  intro a b ha' hb hab hk
  have ra:ro R R[a]=a:=ro_of hn (List.getElem?_eq_getElem ha')
  have rb:ro R R[b]=b:=ro_of hn (List.getElem?_eq_getElem hb)
  have hpa:R[a]≤N:=h.mem.1 (List.getElem_mem ha')
  have hpb:R[b]≤N:=h.mem.1 (List.getElem_mem hb)
  have hc:=(h.cons R[a] R[b] hpa hpb (fun e=>by rw [e,rb] at ra;omega) (by omega) (by omega)).1 (by omega)
  unfold keyR at hc
  rw [decide_eq_true_eq] at hk⊢
  omega
 obtain ⟨r1,r2,r3⟩:=ro_ins hn (at_:=at_) hle
 have hS:=he.len
 refine ⟨hle,ins_end he ha hs,perm_ins h.perm row ha,fun p q hp hq hlt=>?_,fun p q hp hq hpq hpi hqi=>?_⟩
 · by_cases cp:p=at_
   · subst cp
     by_cases cq:q=p
     · subst cq;omega
     · obtain ⟨q0,rfl⟩:=sh_onto cq
       have hq0:q0≤N:=by unfold sh at hq;split at hq <;> omega
       rw [r1,r2 q0 (hm q0 hq0)] at hlt
       rw [ins_at _ _ (by omega),ins_sh _ _ _ (by omega)]
       have hk:=hpre q0 hq0
       rw [decide_eq_true_eq] at hk
       unfold inR at hlt
       split at hlt <;> omega
   · obtain ⟨p0,rfl⟩:=sh_onto cp
     have hp0:p0≤N:=by unfold sh at hp;split at hp <;> omega
     by_cases cq:q=at_
     · subst cq
       rw [r1,r2 p0 (hm p0 hp0)] at hlt
       rw [ins_at _ _ (by omega),ins_sh _ _ _ (by omega)]
       have hk:=hpre p0 hp0
       rw [decide_eq_true_eq] at hk
       unfold inR at hlt
       split at hlt <;> omega
     · obtain ⟨q0,rfl⟩:=sh_onto cq
       have hq0:q0≤N:=by unfold sh at hq;split at hq <;> omega
       rw [r2 p0 (hm p0 hp0),r2 q0 (hm q0 hq0)] at hlt
       rw [ins_sh _ _ _ (by omega),ins_sh _ _ _ (by omega)]
       refine h.first p0 q0 hp0 hq0 ?_
       unfold inR at hlt
       split at hlt <;> split at hlt <;> omega
 · have hsu:∀p0,p0≤N→sh at_ p0+1≠at_→p0 < N→sh at_ p0+1=sh at_ (p0+1):=fun p0 hp0 hc _=>by
    unfold sh at hc⊢
    by_cases c1:p0 < at_ <;> by_cases c2:p0+1 < at_ <;> simp only [c1,c2,if_true,if_false] at hc⊢<;> omega
   have hat1:at_+1=sh at_ at_:=by unfold sh;rw [if_neg (by omega)]
   have ordS:∀p0 q0,p0≤N→q0≤N→(ro (insN (R.map (sh at_)) row at_) (sh at_ p0) < ro (insN (R.map (sh at_)) row at_) (sh at_ q0)↔ro R p0 < ro R q0):=fun p0 q0 hp0 hq0=>by
    rw [r2 p0 (hm p0 hp0),r2 q0 (hm q0 hq0)]
    unfold inR
    split <;> split <;> omega
   have eN:∀x,x≤N→S.getD x 0≠0→x < N:=fun x hx hne=>Nat.lt_of_le_of_ne hx fun e=>by subst e;exact hne he.last
   unfold keyR
   by_cases cp:p=at_
   · subst cp
     obtain ⟨q0,rfl⟩:=sh_onto (fun e=>hpq e.symm)
     have hq0:q0≤N:=by unfold sh at hq;split at hq <;> omega
     rw [r1,r2 q0 (hm q0 hq0),ins_at _ _ (by omega),ins_sh _ _ _ (by omega)]
     have hk:=hpre q0 hq0
     rw [decide_eq_true_eq] at hk
     have hlt:row < inR (ro R q0) row↔¬ro R q0 < row:=by unfold inR;split <;> omega
     rw [hlt,←hk]
     by_cases ce:S.getD q0 0=s
     · have hqN:=eN q0 hq0 (by omega)
       rw [hsu q0 hq0 hqi hqN,hat1,ordS p (q0+1) ha (by omega)]
       have:=fun e=>ro_inj (hm (q0+1) (by omega)) (hm p ha) e
       have hne:ro R (q0+1)≠ro R p:=fun e=>by
        have:=this e
        unfold sh at hqi
        split at hqi <;> omega
       omega
     · omega
   · obtain ⟨p0,rfl⟩:=sh_onto cp
     have hp0:p0≤N:=by unfold sh at hp;split at hp <;> omega
     by_cases cq:q=at_
     · subst cq
       rw [r1,r2 p0 (hm p0 hp0),ins_at _ _ (by omega),ins_sh _ _ _ (by omega)]
       have hk:=hpre p0 hp0
       rw [decide_eq_true_eq] at hk
       have hlt:inR (ro R p0) row < row↔ro R p0 < row:=by unfold inR;split <;> omega
       rw [hlt,←hk]
       by_cases ce:S.getD p0 0=s
       · have hpN:=eN p0 hp0 (by omega)
         rw [hsu p0 hp0 hpi hpN,hat1,ordS (p0+1) q (by omega) ha]
       · omega
     · obtain ⟨q0,rfl⟩:=sh_onto cq
       have hq0:q0≤N:=by unfold sh at hq;split at hq <;> omega
       have hpq0:p0≠q0:=fun e=>hpq (by rw [e])
       rw [ordS p0 q0 hp0 hq0,ins_sh _ _ _ (by omega),ins_sh _ _ _ (by omega),h.cons p0 q0 hp0 hq0 hpq0 (by omega) (by omega)]
       unfold keyR
       by_cases ce:S.getD p0 0=S.getD q0 0
       · by_cases cz:S.getD p0 0=0
         · have x1:p0=N:=Nat.le_antisymm hp0 (Nat.not_lt.1 fun hl=>by have:=he.pos p0 hl;omega)
           have x2:q0=N:=Nat.le_antisymm hq0 (Nat.not_lt.1 fun hl=>by have:=he.pos q0 hl;omega)
           omega
         · have hpN:=eN p0 hp0 cz
           have hqN:=eN q0 hq0 (by omega)
           rw [hsu p0 hp0 hpi hpN,hsu q0 hq0 hqi hqN,ordS (p0+1) (q0+1) (by omega) (by omega)]
       · omega
theorem lastL_ins (hn:R.Nodup) (hp:R.Perm (List.range (N+1))) (he:EndOk S N) {at_ s row:Nat} (ha:at_≤N) (hr:row≤R.length):lastL (insN S at_ s) (insN (R.map (sh at_)) row at_)=insN ((lastL S R).set (ro R at_) s) row (prevL S at_):=by
 have hS:=he.len
 have hS':(insN S at_ s).length=N+1+1:=by rw [insN_len _ _ (by omega),hS]
 have hmem:∀p,p∈R→p≤N:=fun p hpm=>by have:=List.mem_range.1 (hp.mem_iff.1 hpm);omega
 have hat:at_∈R:=hp.mem_iff.2 (List.mem_range.2 (by omega))
 unfold lastL
 rw [insN_map]
 congr 1
 · apply List.ext_getElem?
   intro j
   rw [List.getElem?_map,List.getElem?_map,List.getElem?_set,List.getElem?_map]
   cases hg:R[j]? with
   | none=>
     simp
     intro e
     subst e
     rw [ro_get hat] at hg
     cases hg
   | some p=>
     have hpN:=hmem p (List.mem_of_getElem? hg)
     have hj:ro R p=j:=ro_of hn hg
     show some (prevL (insN S at_ s) (sh at_ p))=_
     by_cases c:p=at_
     · subst c
       rw [if_pos hj,if_pos (by simpa using (List.getElem?_eq_some_iff.1 (hj ▸ hg)).1)]
       congr 1
       rw [show sh p p=p+1 by unfold sh;rw [if_neg (by omega)],prevL_succ (by omega),ins_at _ _ (by omega)]
     · rw [if_neg (fun e=>c (by have h1:=ro_get hat;rw [e,hg] at h1;injection h1))]
       show some _=some (prevL S p)
       congr 1
       rcases p with _ | p
       · rw [show sh at_ 0=0 by unfold sh;rw [if_pos (by omega)],prevL_zero (by omega),prevL_zero (by omega),hS',hS,Nat.add_sub_cancel,Nat.add_sub_cancel,insN_gD _ _ (by omega),if_neg (by omega),if_neg (by omega),Nat.add_sub_cancel]
       · have e1:sh at_ (p+1)=sh at_ p+1:=by unfold sh;split <;> split <;> omega
         have hlt:sh at_ p+1 < N+1+1:=by unfold sh;split <;> omega
         rw [e1,prevL_succ (by omega),prevL_succ (by omega),ins_sh _ _ _ (by omega)]
 · rcases at_ with _ | a
   · rw [prevL_zero (by omega),prevL_zero (by omega),hS',hS,Nat.add_sub_cancel,Nat.add_sub_cancel,insN_gD _ _ (by omega),if_neg (by omega),if_neg (by omega),Nat.add_sub_cancel]
   · rw [prevL_succ (by omega),prevL_succ (by omega),insN_gD _ _ (by omega),if_pos (by omega)]
theorem lastL_move {a t x:Nat} (ha:R[a]?=some x):lastL S (insN (delN R a) t x)=insN (delN (lastL S R) a) t (prevL S x):=by
 unfold lastL
 rw [insN_map,delN_map]
end
end Go.Proofs.YtipaccakmndkgaaGreatDoor
namespace Go.Proofs.YtipaccakmndkgaaGreatDoor
open Go.RowKit
set_option linter.unusedVariables false
set_option linter.unusedSimpArgs false
def TxtAt (w:World) (B gl:Nat) (t:List UInt8):Prop:=∃rs,IsSuf (symL t) rs∧LvW w B gl (lastL (symL t) rs)∧t.length≤127
theorem TxtAt.vis {w w':World} {B gl:Nat} {t:List UInt8} (h:TxtAt w B gl t) (k:Vis w w'):TxtAt w' B gl t:=by
 obtain ⟨rs,h1,h2,h3⟩:=h
 exact ⟨rs,h1,h2.vis k,h3⟩
theorem TxtAt.mono {w:World} {B B' gl:Nat} {t:List UInt8} (h:TxtAt w B gl t) (hB:B'≤B):TxtAt w B' gl t:=by
 obtain ⟨rs,h1,⟨gk,r1,r2,r3,h2,h4⟩,h3⟩:=h
 exact ⟨rs,h1,⟨gk,r1,r2,r3,h2,h4.mono hB⟩,h3⟩
theorem TxtAt.le {w:World} {B gl:Nat} {t:List UInt8} (h:TxtAt w B gl t):t.length≤127:=by
 obtain ⟨rs,h1,h2,h3⟩:=h
 exact h3
theorem TxtNew_any (rate:Nat) (A0:Option Addr) (m0 c0 B:Nat) (ss:List Sl) (t:List UInt8) (hT:catS ss=t) (w:World) (hr0:Rd w B 1 A0 m0 (ss.map slV)) (hss:∀s∈ss,Rd w B 1 s.A s.n (s.l.map bv)) (hB:B≤w.heap.size) (hm:m0≤1000000) (hn:t.length≤127) (hr1:1≤rate) (hr2:rate≤64):
 Calls Tryz.prog 15 #[.int .i64 (rate:Int),.slice A0 m0 c0] w fun e w'=>∃gl,e=.returned (.tuple #[.pointer (some ⟨gl,0,none⟩),.int .i64 0])∧w.heap.size≤gl∧TxtAt w' w.heap.size gl t∧Below w.heap.size w w':=
 (LiveNew_any rate A0 m0 c0 B ss t t.length hT rfl w hr0 hss hB hm hn hr1 hr2).mono fun e w' ⟨gl,gk,gp,ga,vl,vo,vt,B',tk,rs,h1,h2,h3,h4,_,h6⟩=>⟨gl,h2,h3,⟨rs,h1,h4.lvw,hn⟩,h6⟩
theorem lastL_length {t:List UInt8} {rs:List Nat} (h:IsSuf (symL t) rs):(lastL (symL t) rs).length=t.length+1:=by rw [lastL_len,h.len,symL_len]
theorem TxtRows_any (Bw gl:Nat) (t:List UInt8) (A0:Option Addr) (m0 c0 B:Nat) (ss:List Sl) (p:List UInt8) (hT:catS ss=p) (w:World) (h:TxtAt w Bw gl t) (hr0:Rd w B 1 A0 m0 (ss.map slV)) (hss:∀s∈ss,Rd w B 1 s.A s.n (s.l.map bv)) (hB:B≤w.heap.size) (hm:m0≤1000000) (hp:p.length≤1000000):
 Calls Tryz.prog 52 #[.pointer (some ⟨gl,0,none⟩),.slice A0 m0 c0] w fun e w'=>e=.returned (.tuple #[.int .i64 ((Nq (symL t) false (symB p):Nat):Int),.int .i64 ((Nq (symL t) true (symB p):Nat):Int)])∧VB Bw w w':=by
 obtain ⟨rs,h1,h2,h3⟩:=h
 have:=FindRows_any Bw gl _ t.length A0 m0 c0 B ss p p.length hT rfl w h2 (lastL_length h1) (by omega) (lastL_lt (symL_lt t)) hr0 hss hB hm hp
 rw [rowsN_Nq h1 (symL_end t)] at this
 exact this
end Go.Proofs.YtipaccakmndkgaaGreatDoor
namespace Go.Proofs.YtipaccakmndkgaaGreatDoor
open Go.RowKit
set_option linter.unusedVariables false
set_option linter.unusedSimpArgs false
structure PermX (w:World) (F:Nat→Prop) (gp ga:Nat) (vl vo vt vf:Value) (R P:Nat) (ks:List Nat) (C:List (Nat×Nat)) (tk:List Bool) (fr:List Nat):Prop where
 at_:PermAt w 0 gp ga vl vo vt vf R P ks C tk fr
 fp:F gp
 fa:F ga
 fl:OwnF F vl
 fo:OwnF F vo
 ft:OwnF F vt
 ff:OwnF F vf
 nd:ks.Nodup
 tkl:tk.length=C.length
 tkk:∀k,tk[k]?=some true↔k∈ks
 frn:fr.Nodup
 frk:∀k,k∈fr↔tk[k]?=some false
 sz:C.length≤1000
def PermE (w:World) (F:Nat→Prop) (gp R P:Nat) (pr:List (Nat×Nat)):Prop:=
 (∃ga vl vo vt vf ks C tk fr,PermX w F gp ga vl vo vt vf R P ks C tk fr∧pr=ks.map fun k=>(rowK C k,posK C k))∧pr.Pairwise (fun a b=>a.1 < b.1)∧∀x∈pr,x.1 < R∧x.2 < P
theorem PermAt.vis2 {w w':World} {B gp ga:Nat} {vl vo vt vf:Value} {R P:Nat} {ks:List Nat} {C:List (Nat×Nat)} {tk:List Bool} {fr:List Nat} (h:PermAt w B gp ga vl vo vt vf R P ks C tk fr) (k:Vis w w'):PermAt w' B gp ga vl vo vt vf R P ks C tk fr:=
 ⟨k.bk h.blk (by decide) (by decide),k.own h.lrow (by decide) (by decide),k.own h.orow (by decide) (by decide),k.bk h.ar (by decide) (by decide),k.own h.trow (by decide) (by decide),k.own h.frow (by decide) (by decide),h.apart,h.lt,h.lo⟩
section
variable {w w' : World} {F G : Nat → Prop} {gp R P : Nat} {pr : List (Nat × Nat)}
theorem PermE.vis (h:PermE w F gp R P pr) (k:Vis w w'):PermE w' F gp R P pr:=by
 obtain ⟨⟨ga,vl,vo,vt,vf,ks,C,tk,fr,hx,e⟩,h2,h3⟩:=h
 exact ⟨⟨ga,vl,vo,vt,vf,ks,C,tk,fr,⟨hx.at_.vis2 k,hx.fp,hx.fa,hx.fl,hx.fo,hx.ft,hx.ff,hx.nd,hx.tkl,hx.tkk,hx.frn,hx.frk,hx.sz⟩,e⟩,h2,h3⟩
theorem PermE.mono (h:PermE w F gp R P pr) (k:∀b,b < w.heap.size→F b→G b):PermE w G gp R P pr:=by
 obtain ⟨⟨ga,vl,vo,vt,vf,ks,C,tk,fr,hx,e⟩,h2,h3⟩:=h
 have a:=hx.at_
 exact ⟨⟨ga,vl,vo,vt,vf,ks,C,tk,fr,⟨a,k _ a.blk.lt hx.fp,k _ a.ar.lt hx.fa,fun b hb=>k b (a.lrow.lt b hb).2 (hx.fl b hb),fun b hb=>k b (a.orow.lt b hb).2 (hx.fo b hb),fun b hb=>k b (a.trow.lt b hb).2 (hx.ft b hb),fun b hb=>k b (a.frow.lt b hb).2 (hx.ff b hb),hx.nd,hx.tkl,hx.tkk,hx.frn,hx.frk,hx.sz⟩,e⟩,h2,h3⟩
theorem PermE.keep (h:PermE w F gp R P pr) (k:Keep G w w') (hf:∀b,F b→¬G b):PermE w' F gp R P pr:=by
 obtain ⟨⟨ga,vl,vo,vt,vf,ks,C,tk,fr,hx,e⟩,h2,h3⟩:=h
 have a:=hx.at_
 refine ⟨⟨ga,vl,vo,vt,vf,ks,C,tk,fr,⟨⟨k.bk a.blk (hf _ hx.fp),own_same a.lrow fun b cs hb hk=>k.bk hk (hf _ (hx.fl b hb)),own_same a.orow fun b cs hb hk=>k.bk hk (hf _ (hx.fo b hb)),k.bk a.ar (hf _ hx.fa),own_same a.trow fun b cs hb hk=>k.bk hk (hf _ (hx.ft b hb)),own_same a.frow fun b cs hb hk=>k.bk hk (hf _ (hx.ff b hb)),a.apart,a.lt,a.lo⟩,hx.fp,hx.fa,hx.fl,hx.fo,hx.ft,hx.ff,hx.nd,hx.tkl,hx.tkk,hx.frn,hx.frk,hx.sz⟩,e⟩,h2,h3⟩
theorem PermE.below (h:PermE w F gp R P pr) (k:Below w.heap.size w w'):PermE w' F gp R P pr:=h.keep (G:=fun _=>False) (Keep.of_below k) fun _ _ f=>f
end
theorem PermAt.set_rows {w:World} {B gp ga:Nat} {vl vo vt vf:Value} {R P:Nat} {ks:List Nat} {C:List (Nat×Nat)} {tk:List Bool} {fr:List Nat} (h:PermAt w B gp ga vl vo vt vf R P ks C tk fr) (R':Nat):PermAt (w.setCell ⟨gp,3,none⟩ (.int .i64 (R':Int))) B gp ga vl vo vt vf R' P ks C tk fr:=by
 have k:Keep (fun b=>b=gp) w (w.setCell ⟨gp,3,none⟩ (.int .i64 (R':Int))):=Keep.setCell (F:=fun b=>b=gp) (Keep.refl _ _) (p:=⟨gp,3,none⟩) (.inl rfl) _
 exact ⟨h.blk.set 3 _,own_same h.lrow fun b cs _ hk=>k.bk hk (Bk.ne hk h.blk (by decide)),own_same h.orow fun b cs _ hk=>k.bk hk (Bk.ne hk h.blk (by decide)),k.bk h.ar (Bk.ne h.ar h.blk (by decide)),own_same h.trow fun b cs _ hk=>k.bk hk (Bk.ne hk h.blk (by decide)),own_same h.frow fun b cs _ hk=>k.bk hk (Bk.ne hk h.blk (by decide)),h.apart,h.lt,h.lo⟩
theorem PermAt.set_places {w:World} {B gp ga:Nat} {vl vo vt vf:Value} {R P:Nat} {ks:List Nat} {C:List (Nat×Nat)} {tk:List Bool} {fr:List Nat} (h:PermAt w B gp ga vl vo vt vf R P ks C tk fr) (P':Nat):PermAt (w.setCell ⟨gp,4,none⟩ (.int .i64 (P':Int))) B gp ga vl vo vt vf R P' ks C tk fr:=by
 have k:Keep (fun b=>b=gp) w (w.setCell ⟨gp,4,none⟩ (.int .i64 (P':Int))):=Keep.setCell (F:=fun b=>b=gp) (Keep.refl _ _) (p:=⟨gp,4,none⟩) (.inl rfl) _
 exact ⟨h.blk.set 4 _,own_same h.lrow fun b cs _ hk=>k.bk hk (Bk.ne hk h.blk (by decide)),own_same h.orow fun b cs _ hk=>k.bk hk (Bk.ne hk h.blk (by decide)),k.bk h.ar (Bk.ne h.ar h.blk (by decide)),own_same h.trow fun b cs _ hk=>k.bk hk (Bk.ne hk h.blk (by decide)),own_same h.frow fun b cs _ hk=>k.bk hk (Bk.ne hk h.blk (by decide)),h.apart,h.lt,h.lo⟩
theorem pr_map {ks:List Nat} {C C':List (Nat×Nat)} {f:Nat×Nat→Nat×Nat} (h:∀k,k∈ks→(rowK C' k,posK C' k)=f (rowK C k,posK C k)):(ks.map fun k=>(rowK C' k,posK C' k))=(ks.map fun k=>(rowK C k,posK C k)).map f:=by
 rw [List.map_map]
 exact List.map_congr_left fun k hk=>h k hk
theorem inR_lt {a b z:Nat} (h:a < b):inR a z < inR b z:=by
 unfold inR
 split <;> split <;> omega
theorem ks_len:∀ {n:Nat} {ks:List Nat},ks.Nodup→(∀k∈ks,k < n)→ks.length≤n
 | 0,ks,_,hl=>by
   cases ks with
   | nil=>exact Nat.le_refl _
   | cons k ks=>exact absurd (hl k (by simp)) (by omega)
 | n+1,ks,h,hl=>by
   have h1:=ks_len (n:=n) (h.erase n) fun k hk=>by
    have h2:=(h.mem_erase_iff).1 hk
    have:=hl k h2.2
    omega
   by_cases c:n∈ks
   · have:=List.length_erase_of_mem c
     omega
   · rw [List.erase_of_not_mem c] at h1
     omega
set_option maxRecDepth 100000 in
set_option maxHeartbeats 1000000 in
theorem PermRowIn_any (F:Nat→Prop) (gp R P z:Nat) (pr:List (Nat×Nat)) (w:World) (h:PermE w F gp R P pr) (hz:z≤R) (hR:R≤100000) (hP:P≤100000):
 Calls Tryz.prog 63 #[.pointer (some ⟨gp,0,none⟩),.int .i64 (z:Int)] w fun e w'=>e=.returned (.int .i64 0)∧PermE w' F gp (R+1) P (pr.map fun x=>(inR x.1 z,x.2))∧Keep F w w':=by
 obtain ⟨⟨ga,vl,vo,vt,vf,ks,C,tk,fr,hx,rfl⟩,hsort,hbd⟩:=h
 have hat:=hx.at_
 have c3:w.cell? ⟨gp,3,none⟩=some (.int .i64 (R:Int)):=(hat.blk.cell 3).trans rfl
 have f3:=hat.blk.frozen 3
 have hgp:=hat.blk.lt
 have hzR:¬((z:Int) > (R:Int)):=by omega
 have hzN:¬R < z:=by omega
 have hz0:decide ((z:Int) < 0)=false:=by simp
 have e1:wrap64 ((R:Int)+1)=((R+1:Nat):Int):=by rw [wrap64_id (by omega) (by omega)];rfl
 have HX:=Lib.hid hx
 have Hsort:=Lib.hid hsort
 have Hbd:=Lib.hid hbd
 clear hx hat hsort hbd
 go_enter Tryz.func63,Tryz.ntmps63
 go_wp2_with fail
 go_quiet (fail)
 rename_i nq
 have c3q:∀q,((w.alloc (.cells #[.int .i64 (z:Int)] 3)).drewN q).cell? ⟨gp,3,none⟩=some (.int .i64 (R:Int)):=fun q=>(World.cell?_alloc_lt w _ ⟨gp,3,none⟩ hgp).trans c3
 have hmf:∀(fn:Fn) (first cap:Array Value) (w:World),(Instr.makeFunc fn first cap).run Tryz.prog w=.ok (.func fn first cap) w:=fun _ _ _ _=>rfl
 go_wp2_with fail
 have hatA:=HX.out.at_.below ((Below.refl _ _).alloc (Nat.le_refl _) (.cells #[.int .i64 (z:Int)] 3))
 have hat1:PermAt ((w.alloc (.cells #[.int .i64 (z:Int)] 3)).drewN nq) 0 gp ga vl vo vt vf R P ks C tk fr:=hatA.below (below_drewN (Below.refl _ _) _)
 have hat2:=hat1.set_rows (R+1)
 have hgx1:Bk ((w.alloc (.cells #[.int .i64 (z:Int)] 3)).drewN nq) w.heap.size 3 #[.int .i64 (z:Int)]:=Bk.new w _ _
 have hgx2:=hgx1.far (p:=⟨gp,3,none⟩) (fun e=>by have e':w.heap.size=gp:=e;omega) (.int .i64 ((R+1:Nat):Int))
 have hvl:∀b,vl.ownBlock=some b→b≠w.heap.size:=fun b hb e=>by have:=(HX.out.at_.lrow.lt b hb).2;omega
 have hC:∀k,k∈ks→rowK C k≤1000000000000∧posK C k≤1000000000000:=fun k hk=>by
  have:=Hbd.out (rowK C k,posK C k) (List.mem_map.2 ⟨k,hk,rfl⟩)
  have h1:rowK C k < R:=this.1
  have h2:posK C k < P:=this.2
  omega
 have hkl:=ks_len HX.out.nd HX.out.at_.lt
 refine (EachRowIn_any 0 gp ga w.heap.size z vl vo vt vf (R+1) P ks C tk fr _ hat2 HX.out.nd (by have:=HX.out.sz;omega) hgx2 hvl hC).mono ?_
 rintro e w2 ⟨rfl,hk2,C',hl',hf',hat3⟩
 have hkF:Keep F w w2:=(Keep.setCell (F:=F) (((Keep.refl _ _).alloc _).drewN _) (p:=⟨gp,3,none⟩) (.inl HX.out.fp) _).trans (hk2.mono fun b _ hb=>HX.out.fl b hb)
 have hE:PermE w2 F gp (R+1) P ((ks.map fun k=>(rowK C k,posK C k)).map fun x=>(inR x.1 z,x.2)):=by
  refine ⟨⟨ga,vl,vo,vt,vf,ks,C',tk,fr,⟨hat3,HX.out.fp,HX.out.fa,HX.out.fl,HX.out.fo,HX.out.ft,HX.out.ff,HX.out.nd,by rw [hl'];exact HX.out.tkl,HX.out.tkk,HX.out.frn,HX.out.frk,by rw [hl'];exact HX.out.sz⟩,(pr_map (f:=fun x=>(inR x.1 z,x.2)) hf').symm⟩,?_,fun x hx=>?_⟩
  · exact List.pairwise_map.2 (Hsort.out.imp fun {a b} hab=>inR_lt hab)
  · obtain ⟨y,hy,rfl⟩:=List.mem_map.1 hx
    have:=Hbd.out y hy
    have h9:∀a,inR a z≤a+1:=fun a=>by unfold inR;split <;> omega
    have h8:=h9 y.1
    have h7:=h9 y.2
    constructor
    · show inR y.1 z < _
      omega
    · show y.2 < _
      omega
 have HE:=Lib.hid hE
 have HkF:=Lib.hid hkF
 clear hkF hE hat3 hf' hk2 hl' hC hvl hgx2 hgx1 hat2 hat1 hatA
 go_wp2_with fail
 go_ret
 exact ⟨rfl,HE.out,HkF.out⟩
set_option maxRecDepth 100000 in
set_option maxHeartbeats 1000000 in
theorem PermPosIn_any (F:Nat→Prop) (gp R P z:Nat) (pr:List (Nat×Nat)) (w:World) (h:PermE w F gp R P pr) (hz:z≤P) (hR:R≤100000) (hP:P≤100000):
 Calls Tryz.prog 64 #[.pointer (some ⟨gp,0,none⟩),.int .i64 (z:Int)] w fun e w'=>e=.returned (.int .i64 0)∧PermE w' F gp R (P+1) (pr.map fun x=>(x.1,inR x.2 z))∧Keep F w w':=by
 obtain ⟨⟨ga,vl,vo,vt,vf,ks,C,tk,fr,hx,rfl⟩,hsort,hbd⟩:=h
 have hat:=hx.at_
 have c3:w.cell? ⟨gp,4,none⟩=some (.int .i64 (P:Int)):=(hat.blk.cell 4).trans rfl
 have f3:=hat.blk.frozen 4
 have hgp:=hat.blk.lt
 have hzR:¬((z:Int) > (P:Int)):=by omega
 have hzN:¬P < z:=by omega
 have hz0:decide ((z:Int) < 0)=false:=by simp
 have e1:wrap64 ((P:Int)+1)=((P+1:Nat):Int):=by rw [wrap64_id (by omega) (by omega)];rfl
 have HX:=Lib.hid hx
 have Hsort:=Lib.hid hsort
 have Hbd:=Lib.hid hbd
 clear hx hat hsort hbd
 go_enter Tryz.func64,Tryz.ntmps64
 go_wp2_with fail
 go_quiet (fail)
 rename_i nq
 have c3q:∀q,((w.alloc (.cells #[.int .i64 (z:Int)] 3)).drewN q).cell? ⟨gp,4,none⟩=some (.int .i64 (P:Int)):=fun q=>(World.cell?_alloc_lt w _ ⟨gp,4,none⟩ hgp).trans c3
 have hmf:∀(fn:Fn) (first cap:Array Value) (w:World),(Instr.makeFunc fn first cap).run Tryz.prog w=.ok (.func fn first cap) w:=fun _ _ _ _=>rfl
 go_wp2_with fail
 have hatA:=HX.out.at_.below ((Below.refl _ _).alloc (Nat.le_refl _) (.cells #[.int .i64 (z:Int)] 3))
 have hat1:PermAt ((w.alloc (.cells #[.int .i64 (z:Int)] 3)).drewN nq) 0 gp ga vl vo vt vf R P ks C tk fr:=hatA.below (below_drewN (Below.refl _ _) _)
 have hat2:=hat1.set_places (P+1)
 have hgx1:Bk ((w.alloc (.cells #[.int .i64 (z:Int)] 3)).drewN nq) w.heap.size 3 #[.int .i64 (z:Int)]:=Bk.new w _ _
 have hgx2:=hgx1.far (p:=⟨gp,4,none⟩) (fun e=>by have e':w.heap.size=gp:=e;omega) (.int .i64 ((P+1:Nat):Int))
 have hvl:∀b,vl.ownBlock=some b→b≠w.heap.size:=fun b hb e=>by have:=(HX.out.at_.lrow.lt b hb).2;omega
 have hC:∀k,k∈ks→rowK C k≤1000000000000∧posK C k≤1000000000000:=fun k hk=>by
  have:=Hbd.out (rowK C k,posK C k) (List.mem_map.2 ⟨k,hk,rfl⟩)
  have h1:rowK C k < R:=this.1
  have h2:posK C k < P:=this.2
  omega
 have hkl:=ks_len HX.out.nd HX.out.at_.lt
 refine (EachPosIn_any 0 gp ga w.heap.size z vl vo vt vf R (P+1) ks C tk fr _ hat2 HX.out.nd (by have:=HX.out.sz;omega) hgx2 hvl hC).mono ?_
 rintro e w2 ⟨rfl,hk2,C',hl',hf',hat3⟩
 have hkF:Keep F w w2:=(Keep.setCell (F:=F) (((Keep.refl _ _).alloc _).drewN _) (p:=⟨gp,4,none⟩) (.inl HX.out.fp) _).trans (hk2.mono fun b _ hb=>HX.out.fl b hb)
 have hE:PermE w2 F gp R (P+1) ((ks.map fun k=>(rowK C k,posK C k)).map fun x=>(x.1,inR x.2 z)):=by
  refine ⟨⟨ga,vl,vo,vt,vf,ks,C',tk,fr,⟨hat3,HX.out.fp,HX.out.fa,HX.out.fl,HX.out.fo,HX.out.ft,HX.out.ff,HX.out.nd,by rw [hl'];exact HX.out.tkl,HX.out.tkk,HX.out.frn,HX.out.frk,by rw [hl'];exact HX.out.sz⟩,(pr_map (f:=fun x=>(x.1,inR x.2 z)) hf').symm⟩,?_,fun x hx=>?_⟩
  · exact List.pairwise_map.2 (Hsort.out.imp fun {a b} hab=>hab)
  · obtain ⟨y,hy,rfl⟩:=List.mem_map.1 hx
    have:=Hbd.out y hy
    have h9:∀a,inR a z≤a+1:=fun a=>by unfold inR;split <;> omega
    have h8:=h9 y.1
    have h7:=h9 y.2
    constructor
    · show y.1 < _
      omega
    · show inR y.2 z < _
      omega
 have HE:=Lib.hid hE
 have HkF:=Lib.hid hkF
 clear hkF hE hat3 hf' hk2 hl' hC hvl hgx2 hgx1 hat2 hat1 hatA
 go_wp2_with fail
 go_ret
 exact ⟨rfl,HE.out,HkF.out⟩
end Go.Proofs.YtipaccakmndkgaaGreatDoor
