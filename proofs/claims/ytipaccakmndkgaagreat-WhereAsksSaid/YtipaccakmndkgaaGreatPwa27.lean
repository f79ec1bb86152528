/- Plain laws: from a row to the row of the suffix one ahead. No conditions. Plain laws: the places of a pattern are the rows between its bounds, sorted. No conditions. Plain laws: the rows that a search finds, and how often a pattern stands. No conditions. The walks of the wave's Get: its closure, and look with it. Conditions: none. -/
import Derived.Test.YtipaccakmndkgaaGreatPwa25
import Derived.Test.YtipaccakmndkgaaGreatPwa26
import Derived.Test.YtipaccakmndkgaaGreatPwa9
import Derived.Test.YtipaccakmndkgaaGreatPwa14
namespace Go.Proofs.YtipaccakmndkgaaGreat
open Go.RowKit
set_option linter.unusedVariables false
set_option linter.unusedSimpArgs false
noncomputable def ltP (l:List Nat) (p x:Nat):Bool:=@decide (sufLt l x p) (Classical.propDecidable _)
theorem ltP_iff (l:List Nat) (p x:Nat):ltP l p x=true↔sufLt l x p:=by
 unfold ltP
 exact @decide_eq_true_iff _ (Classical.propDecidable _)
theorem idx_count {l rs:List Nat} (h:IsSuf l rs) (i:Nat) (hi:i < rs.length):rs.countP (ltP l rs[i])=i:=by
 have h1:(rs.take i).countP (ltP l rs[i])=i:=by
  rw [List.countP_eq_length.2 fun x hx=>?_]
  · rw [List.length_take];omega
  · obtain ⟨k,hk,rfl⟩:=List.mem_iff_getElem.1 hx
    rw [List.length_take] at hk
    rw [List.getElem_take,ltP_iff]
    exact List.pairwise_iff_getElem.1 h.sorted k i (by omega) hi (by omega)
 have h2:(rs.drop i).countP (ltP l rs[i])=0:=List.countP_eq_zero.2 fun x hx hp=>by
  obtain ⟨k,hk,rfl⟩:=List.mem_iff_getElem.1 hx
  rw [List.length_drop] at hk
  rw [List.getElem_drop,ltP_iff] at hp
  rcases Nat.eq_zero_or_pos k with h0 | h0
  · subst h0
    exact sufLt.asymm hp hp
  · exact sufLt.asymm hp (List.pairwise_iff_getElem.1 h.sorted i (i+k) hi (by omega) (by omega))
 have e:rs.countP (ltP l rs[i])=(rs.take i++rs.drop i).countP (ltP l rs[i]):=congrArg (List.countP _) (List.take_append_drop i rs).symm
 rw [e,List.countP_append]
 omega
theorem take_countP {l rs:List Nat} (h:IsSuf l rs) (P:Nat→Bool) (hd:∀x y,sufLt l x y→P y=true→P x=true) (s:Nat):((lastL l rs).take (rs.countP P)).count s=(List.range l.length).countP (fun p=>decide (prevL l p=s)&&P p):=by
 rw [lastL,←List.map_take,take_down h.sorted hd,←h.count,List.count_eq_countP,List.countP_map,List.countP_filter]
 refine List.countP_congr fun p _=>?_
 simp [Function.comp,and_comm]
theorem lf {l rs:List Nat} {m:Nat} (h:IsSuf l rs) (he:EndOk l m) {i j p:Nat} (hi:i < rs.length) (hj:j < rs.length) (hip:rs[i]=p+1) (hjp:rs[j]=p):narL (lastL l rs) (l.getD p 0) i=j:=by
 have hlen:=he.len
 have hpm:p < m:=by have:=h.lt (List.getElem_mem hi);omega
 have hs:=he.pos p hpm
 obtain ⟨s,hsd⟩:∃s,l.getD p 0=s:=⟨_,rfl⟩
 rw [hsd] at hs⊢
 have ci:=idx_count h i hi
 have cj:=idx_count h j hj
 rw [hip] at ci
 rw [hjp] at cj
 have htk:=take_countP h (ltP l (p+1)) (fun x y hxy hy=>by rw [ltP_iff] at hy⊢;exact hxy.trans hy) s
 rw [ci] at htk
 rw [h.count] at cj
 unfold narL
 rw [htk]
 have e1:(lastL l rs).countP (fun x=>decide (x < s))=(List.range (m+1)).countP (fun p=>decide (l.getD p 0 < s)):=by
  rw [lastL,List.countP_map,h.count,hlen]
  refine count_prev _ _ ?_ fun p hp=>?_
  · show decide (prevL l 0 < s)=_
    rw [prevL_zero (by omega),hlen,Nat.add_sub_cancel]
  · show decide (prevL l (p+1) < s)=_
    rw [prevL_succ (by omega)]
 have e2:(List.range l.length).countP (fun x=>decide (prevL l x=s)&&ltP l (p+1) x)=(List.range (m+1)).countP (fun x=>decide (l.getD x 0=s)&&ltP l (p+1) (x+1)):=by
  rw [hlen]
  refine count_prev _ _ ?_ fun x hx=>?_
  · show (decide (prevL l 0=s)&&_)=(decide (l.getD m 0=s)&&_)
    rw [prevL_zero (by omega),hlen,Nat.add_sub_cancel,he.last]
    have:decide (0=s)=false:=by simp;omega
    rw [this]
    rfl
  · show (decide (prevL l (x+1)=s)&&_)=_
    rw [prevL_succ (by omega)]
 rw [e1,e2,←countP_or,←cj,hlen]
 · refine List.countP_congr fun x hx=>?_
   have hx':x < m+1:=by simpa using hx
   rw [ltP_iff,sufLt_step,aN_getD (by omega:x < l.length),aN_getD (by omega:p < l.length),hsd]
   simp only [Bool.or_eq_true,Bool.and_eq_true,decide_eq_true_eq,ltP_iff]
   constructor
   · rintro (h1 |⟨h1,h2⟩)
     · exact .inl (by omega)
     · exact .inr ⟨by omega,h2⟩
   · rintro (h1 |⟨h1,h2⟩)
     · exact .inl (by omega)
     · exact .inr ⟨by omega,h2⟩
 · intro x _
   simp only [Bool.and_eq_true,decide_eq_true_eq]
   rintro ⟨h1,h2,_⟩
   omega
theorem lastL_at {l rs:List Nat} {m:Nat} (he:EndOk l m) {i p:Nat} (hi:i < rs.length) (hip:rs[i]=p+1) (hp:p < m):(lastL l rs)[i]'(by rw [lastL_len];exact hi)=l.getD p 0:=by
 have hlen:=he.len
 unfold lastL
 rw [List.getElem_map,hip,prevL_succ (by omega)]
theorem IsSuf.row {l rs:List Nat} (h:IsSuf l rs) {p:Nat} (hp:p < l.length):∃j,∃hj:j < rs.length,rs[j]=p:=by
 obtain ⟨j,hj,e⟩:=List.mem_iff_getElem.1 (h.mem hp)
 exact ⟨j,hj,e⟩
theorem bits_at (L:List Nat) (k lv:Nat) (hk:k < L.length):(bitsOf L lv (pathN L[k] lv))[atLv L k L[k] lv]?=some (bitB L[k] lv):=by
 unfold bitsOf atLv
 have e:L=L.take k++L[k]::L.drop (k+1):=by rw [←List.drop_eq_getElem_cons hk,List.take_append_drop]
 generalize hs:L[k]=s at e⊢
 generalize L.take k=A at e⊢
 rw [e,List.filter_append,List.filter_cons,if_pos (by simp),List.map_append,List.countP_eq_length_filter,List.getElem?_append_right (by simp)]
 simp
end Go.Proofs.YtipaccakmndkgaaGreat
namespace Go.Proofs.YtipaccakmndkgaaGreat
open Go.RowKit
set_option linter.unusedVariables false
set_option linter.unusedSimpArgs false
theorem pq_at {l rs:List Nat} (h:IsSuf l rs) (b:Bool) (q:List Nat) (i:Nat) (hi:i < rs.length):Pq l b q rs[i]=decide (i < Nq l b q):=by
 have hN:rs.countP (Pq l b q)=Nq l b q:=h.count _
 have ht:=take_down (P:=Pq l b q) h.sorted (fun x y hxy hy=>Pq_down q hxy hy)
 rw [hN] at ht
 rw [Bool.eq_iff_iff,decide_eq_true_eq]
 constructor
 · intro hp
   by_cases hlt:i < Nq l b q
   · exact hlt
   · exfalso
     have hall:∀x∈rs.take (i+1),Pq l b q x=true:=by
        intro x hx
        obtain ⟨k,hk,rfl⟩:=List.mem_iff_getElem.1 hx
        rw [List.length_take] at hk
        rw [List.getElem_take]
        rcases Nat.lt_or_ge k i with h1 | h1
        · exact Pq_down q (List.pairwise_iff_getElem.1 h.sorted k i (by omega) hi h1) hp
        · obtain rfl:k=i:=by omega
          exact hp
     have h1:=List.countP_eq_length.2 hall
     rw [List.length_take] at h1
     have h2:(rs.take (i+1)).countP (Pq l b q)≤rs.countP (Pq l b q):=(List.take_sublist _ _).countP_le
     omega
 · intro hlt
   have hm:rs[i]∈rs.take (Nq l b q):=by
    rw [List.mem_take_iff_getElem]
    exact ⟨i,by omega,rfl⟩
   rw [ht,List.mem_filter] at hm
   exact hm.2
theorem preq_at {l rs:List Nat} (h:IsSuf l rs) (q:List Nat) (i:Nat) (hi:i < rs.length):preQ l q rs[i]=true↔Nq l false q≤i∧i < Nq l true q:=by
 obtain ⟨h1,h2⟩:=Pq_or l q rs[i]
 rw [pq_at h false q i hi,pq_at h true q i hi] at h1
 rw [pq_at h false q i hi] at h2
 constructor
 · intro hp
   rw [hp] at h1 h2
   constructor
   · rcases Nat.lt_or_ge i (Nq l false q) with h3 | h3
     · exact absurd ⟨decide_eq_true h3,rfl⟩ h2
     · exact h3
   · simpa using h1
 · rintro ⟨h3,h4⟩
   rw [decide_eq_true h4,decide_eq_false (by omega)] at h1
   simpa using h1.symm
theorem mid_filter {α:Type} (P:α→Bool) (rs:List α) (a b:Nat) (hab:a≤b) (hb:b≤rs.length) (h:∀i (hi:i < rs.length),P rs[i]=true↔a≤i∧i < b):(rs.drop a).take (b - a)=rs.filter P:=by
 have e:rs=rs.take a++((rs.drop a).take (b - a)++(rs.drop a).drop (b - a)):=by rw [List.take_append_drop,List.take_append_drop]
 conv=>rhs;rw [e]
 rw [List.filter_append,List.filter_append]
 have h1:(rs.take a).filter P= []:=List.filter_eq_nil_iff.2 fun x hx hp=>by
  obtain ⟨k,hk,rfl⟩:=List.mem_iff_getElem.1 hx
  rw [List.length_take] at hk
  rw [List.getElem_take] at hp
  have:=(h k (by omega)).1 hp
  omega
 have h2:((rs.drop a).take (b - a)).filter P=(rs.drop a).take (b - a):=List.filter_eq_self.2 fun x hx=>by
  obtain ⟨k,hk,rfl⟩:=List.mem_iff_getElem.1 hx
  rw [List.length_take,List.length_drop] at hk
  rw [List.getElem_take,List.getElem_drop]
  exact (h (a+k) (by omega)).2 ⟨by omega,by omega⟩
 have h3:((rs.drop a).drop (b - a)).filter P= []:=List.filter_eq_nil_iff.2 fun x hx hp=>by
  obtain ⟨k,hk,rfl⟩:=List.mem_iff_getElem.1 hx
  rw [List.length_drop,List.length_drop] at hk
  rw [List.getElem_drop,List.getElem_drop] at hp
  have:=(h (a+(b - a+k)) (by omega)).1 hp
  omega
 rw [h1,h2,h3]
 simp
def placesT (t q:List UInt8):List Nat:=(List.range (t.length+1)).filter (preQ (symL t) (symB q))
theorem rows_mid {t:List UInt8} {rs:List Nat} (h:IsSuf (symL t) rs) (q:List UInt8):((rs.drop (Nq (symL t) false (symB q))).take (Nq (symL t) true (symB q) - Nq (symL t) false (symB q))).Perm (placesT t q):=by
 have hab:Nq (symL t) false (symB q)≤Nq (symL t) true (symB q):=by rw [Nq_occ];omega
 rw [mid_filter (preQ (symL t) (symB q)) rs _ _ hab (by rw [h.len];exact Nq_le _ _ _) (fun i hi=>preq_at h (symB q) i hi)]
 have:=h.perm.filter (preQ (symL t) (symB q))
 rw [symL_len] at this
 exact this
theorem eq_of_sorted:∀(a b:List Int),a.Pairwise (fun x y=>x≤y)→b.Pairwise (fun x y=>x≤y)→a.Perm b→a=b
 | [],b,_,_,h=>h.nil_eq.symm ▸ rfl
 | x::a, [],_,_,h=>by simp at h
 | x::a,y::b,ha,hb,h=>by
   obtain ⟨h1,h2⟩:=List.pairwise_cons.1 ha
   obtain ⟨h3,h4⟩:=List.pairwise_cons.1 hb
   have hxy:x=y:=by
    have hx:x∈y::b:=h.mem_iff.1 (by simp)
    have hy:y∈x::a:=h.mem_iff.2 (by simp)
    rcases List.mem_cons.1 hx with e | hx
    · exact e
    · rcases List.mem_cons.1 hy with e | hy
      · exact e.symm
      · have:=h1 y hy
        have:=h3 x hx
        omega
   subst hxy
   rw [eq_of_sorted a b h2 h4 (List.perm_cons x |>.1 h)]
theorem sort_places {t:List UInt8} {rs:List Nat} (h:IsSuf (symL t) rs) (q:List UInt8):(((rs.drop (Nq (symL t) false (symB q))).take (Nq (symL t) true (symB q) - Nq (symL t) false (symB q))).map fun n:Nat=>(n:Int)).mergeSort (fun x y=>decide (x≤y))=(placesT t q).map fun n:Nat=>(n:Int):=by
 refine eq_of_sorted _ _ ?_ ?_ ((List.mergeSort_perm _ _).trans ((rows_mid h q).map _))
 · have:=List.pairwise_mergeSort (le:=fun x y:Int=>decide (x≤y)) (fun a b c h1 h2=>by simp at*;omega) (fun a b=>by simp;omega) (((rs.drop (Nq (symL t) false (symB q))).take (Nq (symL t) true (symB q) - Nq (symL t) false (symB q))).map fun n:Nat=>(n:Int))
   exact this.imp fun h=>by simpa using h
 · rw [List.pairwise_map]
   unfold placesT
   refine (List.Pairwise.filter _ List.pairwise_lt_range).imp fun {a b} h=>?_
   omega
end Go.Proofs.YtipaccakmndkgaaGreat
namespace Go.Proofs.YtipaccakmndkgaaGreat
set_option linter.unusedVariables false
set_option linter.unusedSimpArgs false
theorem rowsN_Nq {l rs:List Nat} {m:Nat} (h:IsSuf l rs) (he:EndOk l m) (p:List UInt8):rowsN (lastL l rs) p=(Nq l false (symB p),Nq l true (symB p)):=by
 have hL:(lastL l rs).length=l.length:=by rw [lastL_len,h.len]
 unfold rowsN
 rw [hL]
 induction p with
 | nil=>
   obtain ⟨h1,h2⟩:=Nq_nil l
   show (0,l.length)=(Nq l false [],Nq l true [])
   rw [h1,h2]
 | cons c p ih=>
   rw [List.reverse_cons,List.foldl_append,ih]
   show (narL _ (c.toNat+1) (Nq l false (symB p)),narL _ (c.toNat+1) (Nq l true (symB p)))=_
   rw [narL_Nq h he _ _ _ (by omega),narL_Nq h he _ _ _ (by omega)]
   rfl
end Go.Proofs.YtipaccakmndkgaaGreat
namespace Go.Proofs.YtipaccakmndkgaaGreat
open Go.RowKit
set_option linter.unusedVariables false
set_option linter.unusedSimpArgs false
set_option maxRecDepth 100000 in
theorem Get1_any (gt gk gn:Nat) (lv p:Int) (x:Value) (bs:List Bool) (k:Nat) (w:World) (ht:TreeAt w gt bs) (hk:Bk w gk 3 #[.int .i64 (k:Int)]) (hn:Bk w gn 4 #[x]) (hkl:k < bs.length):
 Calls Tryz.prog 54 #[.agg #[.pointer (some ⟨gt,0,none⟩),.int .i64 lv,.int .i64 p],.pointer (some ⟨gk,0,none⟩),.pointer (some ⟨gn,0,none⟩)] w fun e w'=>e=.returned (.tuple #[])∧
  ∃w1,VisK (fun b=>b=gt) w w1∧Bk w1 gn 4 #[x]∧w'=w1.setCell ⟨gn,0,none⟩ (.bool (bs.getD k false)):=by
 have c1:w.cell? ⟨gk,0,none⟩=some (.int .i64 (k:Int)):=(hk.cell 0).trans rfl
 have l1:=hk.lt
 have l3:=hn.lt
 obtain ⟨bb,hbb⟩:∃b,bs.getD k false=b:=⟨_,rfl⟩
 rw [hbb]
 have Hbb:=Lib.hid hbb
 have Ht:=Lib.hid ht
 have Hn:=Lib.hid hn
 have Hkl:=Lib.hid hkl
 clear ht hk hn hbb hkl
 go_enter Tryz.func54,Tryz.ntmps54
 go_wp2_with fail
 refine (TreeGet_any gt bs k _ (Ht.out.below ((Below.refl _ _).alloc (Nat.le_refl _) _)) Hkl.out).mono ?_
 rintro e w1 ⟨rfl,hv⟩
 rw [Hbb.out]
 have hv0:VisK (fun b=>b=gt) w w1:=(VisK.of_below ((Below.refl _ _).alloc (Nat.le_refl _) _)).trans hv
 have hn1:=hv0.1.bk Hn.out (by decide) (by decide)
 have c3:w1.cell? ⟨gn,0,none⟩=some x:=(hn1.cell 0).trans rfl
 have f3:=hn1.frozen 0
 have HV:=Lib.hid hv0
 have Hn1:=Lib.hid hn1
 clear hv hv0 hn1
 go_wp2_with fail
 go_end0
 exact ⟨rfl,w1,HV.out,Hn1.out,rfl⟩
set_option maxRecDepth 100000 in
set_option maxHeartbeats 1000000 in
theorem LookG_any (gv gt gk gn:Nat) (S:Nat→Value) (n v lv p:Int) (x:Value) (bs:List Bool) (k:Nat) (w0 w:World) (hw:Bk w gv 81 (wcells S n v)) (ht0:TreeAt w0 gt bs) (hv0:Vis w0 w) (hg0:w0.heap.size≤gn) (hk:Bk w gk 3 #[.int .i64 (k:Int)]) (hn:Bk w gn 4 #[x]) (hkl:k < bs.length):
 Calls Tryz.prog 53 #[.pointer (some ⟨gv,0,none⟩),.agg #[.pointer (some ⟨gt,0,none⟩),.int .i64 lv,.int .i64 p],.func (.func 54) #[] #[.pointer (some ⟨gk,0,none⟩),.pointer (some ⟨gn,0,none⟩)]] w fun e w'=>e=.returned (.tuple #[])∧
  VisF (fun b=>b=gn) w w'∧Keep (fun b=>b=gv∨b=gt∨b=gn) w w'∧Bk w' gn 4 #[.bool (bs.getD k false)]:=by
 have ht:=ht0.vis hv0
 obtain ⟨bb,hbb⟩:∃b,bs.getD k false=b:=⟨_,rfl⟩
 rw [hbb]
 have Hbb:=Lib.hid hbb
 have Ht0:=Lib.hid ht0
 have HV0:=Lib.hid hv0
 clear hbb ht0 hv0
 obtain ⟨o,ho⟩:∃o,Obj.cells #[.pointer (some ⟨gt,0,none⟩),.int .i64 lv,.int .i64 p] 84=o:=⟨_,rfl⟩
 have hal:=(Below.refl w.heap.size w).alloc (Nat.le_refl _) o
 have hs1:=Bk.new w 84 #[.pointer (some ⟨gt,0,none⟩),.int .i64 lv,.int .i64 p]
 rw [ho] at hs1
 have l1:=hk.lt
 have l3:=hn.lt
 have l4:=hw.lt
 have n1:=Bk.ne hn hw (by decide)
 have Ht:=Lib.hid ht
 have Hn:=Lib.hid hn
 have Hk:=Lib.hid hk
 have Hw:=Lib.hid hw
 have HA:=Lib.hid hal
 have Hs:=Lib.hid hs1
 have Ho:=Lib.hid ho
 clear ht hk hn hw hal hs1 ho
 go_enter Tryz.func53,Tryz.ntmps53
 go_wp2_with fail
 rw [Ho.out]
 refine (Get1_any gt gk gn lv p x bs k _ (Ht.out.below HA.out) (Hk.out.alloc _) (Hn.out.alloc _) hkl).mono ?_
 rintro e w2 ⟨rfl,w1,hv1,hn1,rfl⟩
 rw [Hbb.out]
 obtain ⟨v1,hw1⟩:=((Vis.of_below HA.out).trans hv1.1).waveC Hw.out
 have hw2:=hw1.far (p:=⟨gn,0,none⟩) (fun h=>n1 h.symm) (.bool bb)
 have ht1:=Ht.out.vis ((Vis.of_below HA.out).trans hv1.1)
 have ht2:TreeAt (w1.setCell ⟨gn,0,none⟩ (.bool bb)) gt bs:=Ht0.out.vis (((HV0.out.trans (Vis.of_below HA.out)).trans hv1.1).fresh (p:=⟨gn,0,none⟩) hg0 _)
 obtain ⟨vt,hvt⟩:=ht2.visits
 have hs2:=(hv1.1.bk Hs.out (by decide) (by decide)).far (p:=⟨gn,0,none⟩) (fun h=>absurd (show w.heap.size=gn from h) (by omega)) (.bool bb)
 have hnn:=hn1.set 0 (.bool bb)
 have hfin:VisF (fun b=>b=gn) w (w1.setCell ⟨gn,0,none⟩ (.bool bb)):=VisF.put (F:=fun b=>b=gn) (VisF.of_vis ((Vis.of_below HA.out).trans hv1.1)) (p:=⟨gn,0,none⟩) (.inl rfl) _
 have hkp:Keep (fun b=>b=gv∨b=gt∨b=gn) w (w1.setCell ⟨gn,0,none⟩ (.bool bb)):=Keep.setCell (F:=fun b=>b=gv∨b=gt∨b=gn) ((Keep.of_below HA.out).trans (hv1.2.mono fun b _ e=>.inr (.inl e))) (p:=⟨gn,0,none⟩) (.inl (.inr (.inr rfl))) _
 obtain ⟨W,hW⟩:∃W,w1.setCell ⟨gn,0,none⟩ (.bool bb)=W:=⟨_,rfl⟩
 rw [hW] at hw2 ht2 hvt hs2 hnn hfin hkp⊢
 have s0:W.cell? ⟨w.heap.size,0,none⟩=some (.pointer (some ⟨gt,0,none⟩)):=(hs2.cell 0).trans rfl
 have Hw2:=Lib.hid hw2
 have Hs2:=Lib.hid hs2
 have HN:=Lib.hid hnn
 have HF:=Lib.hid hfin
 have HK:=Lib.hid hkp
 have Ht2:=Lib.hid ht2
 have Hvt:=Lib.hid hvt
 have htlt:=ht2.lt
 have hslt:=hs2.lt
 have hgs:=Bk.ne hw2 hs2 (by decide)
 have hgn:=Bk.ne hw2 hnn (by decide)
 have hgvt:gt≠gv:=by
  rintro rfl
  obtain ⟨ga,v,⟨_,_,h2⟩|⟨_,_,_,_,_,h3⟩⟩:=Ht2.out
  · exact absurd (bk_inj h2 Hw2.out).1 (by decide)
  · exact absurd (bk_inj h3.tree Hw2.out).1 (by decide)
 clear hw2 hs2 hnn hfin hkp ht2 hvt hW hw1 ht1 hn1 hv1 HA Ht Hn Hk Hw Hs s0
 go_wp2_with fail
 refine wp_region_any (by kernel_rfl) ?_
 refine wpAny_keep [9,10,11,12,13,14,15,16,17,18] (fun b=>b=gv) 10 [3,10] (fun w2=>Bk w2 gv 81 (wcells S n v1)) (fun _ w2=>Bk w2 gv 81 (wcells S n (IntKind.i64.wrap (v1+vt)))) [is (.pointer (some ⟨gv,0,none⟩)),is (.pointer (some ⟨gv,0,none⟩)),is (.pointer (some ⟨gv,10,none⟩)),is (.int .i64 v1),is (.pointer (some ⟨w.heap.size,0,none⟩)),is (.pointer (some ⟨gt,0,none⟩)),is (.int .i64 vt),is (.int .i64 (IntKind.i64.wrap (v1+vt))),is (.pointer (some ⟨gv,0,none⟩)),is (.pointer (some ⟨gv,10,none⟩)),anyV] _ _ rfl (by kernel_rfl) (by kernel_rfl) (Hw2.out) (fun w2 w3 h _ hg=>Bk.below h hg h.lt) (fun _ _ _ h k=>Bk.below h k h.lt) (by repeat' (first | exact stbk_is _ _ | exact stbk_any _ |(refine List.forall_mem_cons.2 ⟨?_,?_⟩)|(intro p hp;cases hp))) ?_ ?_
 · refine steps_of ?_
   refine steps_cons (step_on3 rfl rfl fun ev _ _ _ _ _ hold _ _ _ _ hK=>?_) ?_
   · have e0:ev (.tmp 0)=.pointer (some ⟨gv,0,none⟩):=hold 0 (by kernel_rfl)
     go_simp
     exact hK _ _ (kstep_grow (Below.refl _ _)) rfl
   refine steps_cons (step_on3 rfl rfl fun _ _ _ _ _ _ _ hval _ _ _ hK=>?_) ?_
   · have e9:_=_:=hval 0 9 (by kernel_rfl) rfl
     go_simp
     exact hK _ _ (kstep_grow (Below.refl _ _)) rfl
   refine steps_cons (step_on3 rfl rfl fun _ _ _ _ _ _ _ hval _ _ _ hK=>?_) ?_
   · have e10:_=_:=hval 1 10 (by kernel_rfl) rfl
     go_simp
     exact hK _ _ (kstep_grow (Below.refl _ _)) rfl
   refine steps_cons (step_on3 rfl rfl fun _ w5 _ hU _ _ _ hval _ _ _ hK=>?_) ?_
   · have hpre:=hU rfl
     have e11:_=_:=hval 2 11 (by kernel_rfl) rfl
     have c12:w5.cell? ⟨gv,10,none⟩=some (.int .i64 v1):=(hpre.cell 10).trans (wcells_get _ _ _).2.2.2.2.2.2.2.2.2.2
     go_simp
     exact hK _ _ (kstep_grow (Below.refl _ _)) rfl
   refine steps_cons (step_on3 rfl rfl fun ev _ _ _ _ _ hold _ _ _ _ hK=>?_) ?_
   · have e4:ev (.tmp 4)=.pointer (some ⟨w.heap.size,0,none⟩):=hold 4 (by kernel_rfl)
     go_simp
     exact hK _ _ (kstep_grow (Below.refl _ _)) rfl
   refine steps_cons (step_on3 rfl rfl fun _ w5 hS _ _ _ _ hval _ _ _ hK=>?_) ?_
   · replace hS:Keep (fun b=>b=gv) W w5:=⟨hS.os,hS.tape,hS.output,hS.size,hS.block⟩
     have e13:_=_:=hval 4 13 (by kernel_rfl) rfl
     have c14:w5.cell? ⟨w.heap.size,0,none⟩=some (.pointer (some ⟨gt,0,none⟩)):=((hS.bk Hs2.out (fun h=>hgs (show w.heap.size=gv from h).symm)).cell 0).trans rfl
     go_simp
     exact hK _ _ (kstep_grow (Below.refl _ _)) rfl
   refine steps_cons (step_on3 rfl rfl fun _ w5 hS _ _ _ _ hval _ _ _ hK=>?_) ?_
   · replace hS:Keep (fun b=>b=gv) W w5:=⟨hS.os,hS.tape,hS.output,hS.size,hS.block⟩
     have e14:_=_:=hval 5 14 (by kernel_rfl) rfl
     go_simp
     refine (TreeVisits_any gt vt w5 ((hS.cell htlt hgvt).trans Hvt.out)).mono ?_
     rintro e w8 ⟨rfl,hb8⟩
     exact hK _ _ (kstep_grow hb8) rfl
   refine steps_cons (step_on3 rfl rfl fun _ _ _ _ _ _ _ hval _ _ _ hK=>?_) ?_
   · have e12:_=_:=hval 3 12 (by kernel_rfl) rfl
     have e15:_=_:=hval 6 15 (by kernel_rfl) rfl
     go_simp
     exact hK _ _ (kstep_grow (Below.refl _ _)) rfl
   refine steps_cons (step_on3 rfl rfl fun _ _ _ _ _ _ _ hval _ _ _ hK=>?_) ?_
   · have e9:_=_:=hval 0 9 (by kernel_rfl) rfl
     go_simp
     exact hK _ _ (kstep_grow (Below.refl _ _)) rfl
   refine steps_cons (step_on3 rfl rfl fun _ _ _ _ _ _ _ hval _ _ _ hK=>?_) ?_
   · have e17:_=_:=hval 8 17 (by kernel_rfl) rfl
     go_simp
     exact hK _ _ (kstep_grow (Below.refl _ _)) rfl
   refine steps_cons (step_on3 rfl rfl fun _ w5 _ hU _ _ _ hval _ _ _ hK=>?_) ?_
   · have hpre:=hU rfl
     have e18:_=_:=hval 9 18 (by kernel_rfl) rfl
     have e16:_=_:=hval 7 16 (by kernel_rfl) rfl
     have c18:w5.cell? ⟨gv,10,none⟩=some (.int .i64 v1):=(hpre.cell 10).trans (wcells_get _ _ _).2.2.2.2.2.2.2.2.2.2
     have f18:=hpre.frozen 10
     go_simp
     refine hK (.bool true) _ (kstep_keep (Keep.setCell (F:=fun b=>b=gv) (Keep.refl _ _) (p:=⟨gv,10,none⟩) (.inl rfl) _)) ?_
     rw [←wcells_visits S n v1]
     exact hpre.set 10 _
   exact steps_nil
 · intro ev w6 hS hval hall
   replace hS:Keep (fun b=>b=gv) W w6:=⟨hS.os,hS.tape,hS.output,hS.size,hS.block⟩
   obtain ⟨vJ,pJ⟩:∃vJ0,(fun _ w2=>Bk w2 gv 81 (wcells S n (IntKind.i64.wrap (v1+vt)))) vJ0 w6:=hall 10 (by decide)
   simp only [putsOf,List.foldl_cons,List.foldl_nil,Act.put,List.setIfInBounds_toArray,List.set_cons_zero,List.set_cons_succ]
   clear hval hall
   have hv6:=Vis.of_wave hS Hw2.out pJ
   have h1:=VisF.trans HF.out (VisF.of_vis hv6)
   have h2:=HK.out.trans (hS.mono fun b _ e=>.inl e)
   have h3:=hS.bk HN.out (fun e=>hgn (show gn=gv from e).symm)
   have H1:=Lib.hid h1
   have H2:=Lib.hid h2
   have H3:=Lib.hid h3
   clear hv6 h1 h2 h3 pJ hS
   go_wp2_with fail
   go_end0
   exact ⟨rfl,H1.out,H2.out,H3.out⟩
end Go.Proofs.YtipaccakmndkgaaGreat
