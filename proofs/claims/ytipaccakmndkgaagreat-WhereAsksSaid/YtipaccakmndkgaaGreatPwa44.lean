/- Plain laws for an insert and a delete of a byte: the samples' gaps behind it, the symbols (plain Lean). No conditions. -/
import Derived.Test.YtipaccakmndkgaaGreatPwa43
namespace Go.Proofs.YtipaccakmndkgaaGreat
set_option linter.unusedVariables false
set_option linter.unusedSimpArgs false
theorem symL_ins (t:List UInt8) {k:Nat} (b:UInt8) (h:k≤t.length):symL (insN t k b)=insN (symL t) k (b.toNat+1):=by
 unfold symL symB insN
 rw [List.map_append,List.map_cons,List.map_take,List.map_drop,List.take_append_of_le_length (by simpa using h),List.drop_append_of_le_length (by simpa using h)]
 simp
theorem set_perm {L:List Nat} {k s old:Nat} (h:L[k]?=some old):(old::L.set k s).Perm (s::L):=by
 obtain ⟨hk,e⟩:=List.getElem?_eq_some_iff.1 h
 have h1:L.set k s=L.take k++s::L.drop (k+1):=List.set_eq_take_append_cons_drop .. |>.trans (by rw [if_pos hk])
 have h2:L=L.take k++old::L.drop (k+1):=by
  conv=>lhs;rw [←List.take_append_drop k L]
  rw [List.drop_eq_getElem_cons hk,e]
 rw [h1]
 conv=>rhs;rw [h2]
 refine ((List.perm_middle).cons old).trans ?_
 refine (List.Perm.swap s old _).trans ?_
 exact ((List.perm_middle).symm.cons s)
section
variable {S S' : Nat → Prop} {r N at_ : Nat}
theorem pregap_ins (hg:GapOk S r N) (h0:S 0) (hle:∀s,S s→s≤N) (hr:1≤r) (hat:at_≤N) (hS:∀p,S' p↔∃s,S s∧p=sh at_ s):PreGap S' r (N+1) at_:=by
 have mk:∀s,S s→S' (sh at_ s):=fun s hs=>(hS _).2 ⟨s,hs,rfl⟩
 have hz:S' 0∨(at_=0∧S' 1):=by
  by_cases c:at_=0
  · right
    have:=mk 0 h0
    unfold sh at this
    rw [if_neg (by omega)] at this
    exact ⟨c,this⟩
  · left
    have:=mk 0 h0
    unfold sh at this
    rw [if_pos (by omega)] at this
    exact this
 refine ⟨fun p hp=>?_,fun p hp hc hN=>?_,fun p hp hN=>?_⟩
 · obtain ⟨s,hs,rfl⟩:=(hS p).1 hp
   have:=hle s hs
   unfold sh
   split <;> omega
 · by_cases hp':S' p
   · obtain ⟨s,hs,rfl⟩:=(hS p).1 hp'
     unfold sh at hc hN⊢
     by_cases c:s < at_
     · rw [if_pos c] at hc hN⊢
       obtain ⟨u,hu,h1,h2⟩:=hg s hs (by omega)
       have:=mk u hu
       unfold sh at this
       rw [if_pos (by omega)] at this
       exact ⟨u,this,h1,h2⟩
     · rw [if_neg c] at hc hN⊢
       obtain ⟨u,hu,h1,h2⟩:=hg s hs (by omega)
       have:=mk u hu
       unfold sh at this
       rw [if_neg (by omega)] at this
       exact ⟨u+1,this,by omega,by omega⟩
   · have e:p=0:=hp.resolve_left hp'
     subst e
     rcases hz with h |⟨_,h⟩
     · exact absurd h hp'
     · exact ⟨1,h,by omega,by omega⟩
 · by_cases hp':S' p
   · obtain ⟨s,hs,rfl⟩:=(hS p).1 hp'
     unfold sh at hN⊢
     by_cases c:s < at_
     · rw [if_pos c] at hN⊢
       obtain ⟨u,hu,h1,h2⟩:=hg s hs (by omega)
       have:=mk u hu
       unfold sh at this
       by_cases c2:u < at_
       · rw [if_pos c2] at this
         exact ⟨u,this,h1,by omega⟩
       · rw [if_neg c2] at this
         exact ⟨u+1,this,by omega,by omega⟩
     · rw [if_neg c] at hN⊢
       obtain ⟨u,hu,h1,h2⟩:=hg s hs (by omega)
       have:=mk u hu
       unfold sh at this
       rw [if_neg (by omega)] at this
       exact ⟨u+1,this,by omega,by omega⟩
   · have e:p=0:=hp.resolve_left hp'
     subst e
     rcases hz with h |⟨_,h⟩
     · exact absurd h hp'
     · exact ⟨1,h,by omega,by omega⟩
end
end Go.Proofs.YtipaccakmndkgaaGreat
