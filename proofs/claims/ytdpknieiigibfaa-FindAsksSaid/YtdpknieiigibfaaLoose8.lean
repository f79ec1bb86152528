/- Regions that draw their order, whose operations all step along one relation S. No conditions. -/
import Derived.Test.YtdpknieiigibfaaLoose2
import Derived.Test.YtdpknieiigibfaaLoose7
namespace Go.Proofs.Ytdpknieiigibfaa
open Go.RowKit
def StbS (S : World → World → Prop) (p : Value → World → Prop) : Prop := ∀ v w w', p v w → S w w' → p v w'
theorem stbs_is (S : World → World → Prop) (c : Value) : StbS S (is c) := fun _ _ _ h _ => h
theorem stbs_any (S : World → World → Prop) : StbS S anyV := fun _ _ _ _ _ => trivial
theorem stbs_all {S : World → World → Prop} {l : List (Value → World → Prop)} (h : ∀ p ∈ l, StbS S p) : ∀ i v w w', Vs l i v w → S w w' → Vs l i v w' := by
  intro i v w w' hp hs
  unfold Vs at hp ⊢
  rw [List.getD_eq_getElem?_getD] at hp ⊢
  rcases hl : l[i]? with _ | p
  · rw [hl] at hp
    exact hp
  · rw [hl] at hp
    exact h p (List.mem_of_getElem? hl) v w w' hp hs
end Go.Proofs.Ytdpknieiigibfaa
