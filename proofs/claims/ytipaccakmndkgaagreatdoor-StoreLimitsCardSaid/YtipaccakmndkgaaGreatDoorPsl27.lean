/- A text and its pairs under lookups; the sampled pairs. No conditions. The walk of the wave's Select. Conditions: there is such a symbol; symbols below 257; at most 1000; the table of math/bits stands in its variable. -/
import Derived.Test.YtipaccakmndkgaaGreatDoorPsl21
import Derived.Test.YtipaccakmndkgaaGreatDoorPsl26
set_option linter.unusedVariables false
set_option linter.unusedSimpArgs false
set_option maxRecDepth 100000
set_option maxHeartbeats 1000000
namespace Go.Proofs.YtipaccakmndkgaaGreatDoor
open Go.RowKit
theorem PermAt.vis {w w':World} {B gp ga:Nat} {vl vo vt vf:Value} {R P:Nat} {ks:List Nat} {C:List (Nat×Nat)} {tk:List Bool} {fr:List Nat} (h:PermAt w B gp ga vl vo vt vf R P ks C tk fr) (k:Vis w w'):PermAt w' B gp ga vl vo vt vf R P ks C tk fr:=
 ⟨k.bk h.blk (by decide) (by decide),k.own h.lrow (by decide) (by decide),k.own h.orow (by decide) (by decide),k.bk h.ar (by decide) (by decide),k.own h.trow (by decide) (by decide),k.own h.frow (by decide) (by decide),h.apart,h.lt,h.lo⟩
theorem LiveAt.vis {w w':World} {Bw gl gk gp ga:Nat} {vl vo vt:Value} {B n rate:Nat} {L:List Nat} {C:List (Nat×Nat)} {tk:List Bool} (h:LiveAt w Bw gl gk gp ga vl vo vt B n rate L C tk) (k:Vis w w'):LiveAt w' Bw gl gk gp ga vl vo vt B n rate L C tk:=
 ⟨k.bk h.blk (by decide) (by decide),h.walk.vis k,h.perm.vis k⟩
theorem sampM (rs:List Nat) (rate n i p:Nat):(i,p)∈sampC rs rate n↔i < n∧rs.getD i 0=p∧p % rate=0:=by
 unfold sampC
 rw [List.mem_map]
 constructor
 · rintro ⟨a,ha,e⟩
   rw [List.mem_filter,List.mem_range] at ha
   cases e
   exact ⟨ha.1,rfl,by simpa using ha.2⟩
 · rintro ⟨h1,rfl,h2⟩
   exact ⟨i,List.mem_filter.2 ⟨List.mem_range.2 h1,by simpa using h2⟩,rfl⟩
theorem range_sorted (C:List (Nat×Nat)) (h:C.Pairwise (fun a b=>a.1 < b.1)):(List.range C.length).Pairwise (fun a b=>rowK C a < rowK C b):=by
 rw [List.pairwise_iff_getElem]
 intro i j hi hj hij
 rw [List.length_range] at hi hj
 rw [List.getElem_range,List.getElem_range]
 have:=List.pairwise_iff_getElem.1 h i j hi hj hij
 unfold rowK
 rw [List.getD_eq_getElem?_getD,List.getD_eq_getElem?_getD,List.getElem?_eq_getElem hi,List.getElem?_eq_getElem hj]
 exact this
theorem sampC_le (rs:List Nat) (rate n:Nat):(sampC rs rate n).length≤n:=by
 unfold sampC
 rw [List.length_map]
 exact Nat.le_trans (List.length_filter_le _ _) (by simp)
theorem VisF.waveC {F:Nat→Prop} {w w':World} {g:Nat} {S:Nat→Value} {n v:Int} (h:VisF F w w') (hb:Bk w g 174 (wcells S n v)) (hn:¬F g):∃v',Bk w' g 174 (wcells S n v'):=by
 rcases VisF.wave h hb hn with h1 |⟨v',h1⟩
 · exact ⟨v,h1⟩
 · rw [wcells_visits] at h1
   exact ⟨v',h1⟩
end Go.Proofs.YtipaccakmndkgaaGreatDoor
