/- Lemmas of the walk. Conditions: each its own. -/
import Derived.Test.YtknjfpcdhdmghaaGreatDoorPt44
set_option linter.all false
set_option maxRecDepth 100000
set_option maxHeartbeats 1000000
open Go.Proofs.Tryz
namespace Go.Proofs.YtknjfpcdhdmghaaGreatDoor
open Go.RowKit
def nQ (n a) (d:0 < a):∃k:Nat,(IntKind.u64.wrap n).tmod a=(k:Int)/\(k:Int) < a:=by
 have c:0<=IntKind.u64.wrap n:=zv
 refine ⟨((IntKind.u64.wrap n).tmod a).toNat,?_,?_⟩;have:=Int.tmod_nonneg a c;omega;have f:=Int.tmod_nonneg a c;have i:=Int.tmod_lt_of_pos (IntKind.u64.wrap n) d;omega
section
variable {w w' : World} {B B' sz n : Nat} {A : Option Addr} {xs : List Value}
end
section
variable {P : Program} (t e : TypeId) (sz : Nat) (ht : P.underlying t = some (.slice e)) (hs : ∀ w, (sizeOf e).run P w = .ok sz w)
include ht hs
end
section
variable {w w' : World} {g : Nat} {t : TypeId} {cs : Array Value}
end
section
variable {F G : Nat -> Prop} {w w1 w' : World}
end
section
variable {P : Program} (w : World)
end
section
variable {P : Program} {ops : Array Oper} {Q : Exit -> Act -> World -> Prop} {md : Region.Mode}
def xN (n j i d c) (s:(ops.toList.take n).filterMap (·.dst)=j) (C:n<=ops.size) (z:kL md ops d.tmps.size=true) (H:((List.range ops.size).all λk=>decide (k < n)||(List.range n).all λa=>upB md ops ops.size k a)=true) (D:∀I∈i,Stb I) (E:∀m q,m < n->ops[m]?=some q->dN P ops Q md (Grow c) (λ_=>Grow) (λ_ _=>True) (Vs i) d m q) (u:∀(p:Operand->Value) w f,Grow c w->(∀a o,a < n->((ops[a]?).bind (·.dst))=some o->Vs i a (p (.tmp o)) w)->wpAny P md ops Q (ops.size - n+f) (bT n ops.size) (dJ p j d) w):
 wpAny P md ops Q ops.size (Array.replicate ops.size false) d c:=
 iG n j (Grow c) (λ_=>Grow) (λ_ _=>True) (Vs i) d c s C z H bR (λ_=>trivial) (λ_ _ _ _ l k=>l.trans k) (λ_ _ _ _ _ _ _ _ _ _=>trivial) (λa _ v w w' _ _ _ l _ k=>eY D a v w w' l k) E u
end
section
variable {w w' : World} {v : Value}
variable {B gs gl gx gt N0 aA rate : Nat} {own own' : Nat -> Nat} {T T2 : List UInt8} {r : Told}
end
section
variable {w w' : World} {g : Nat} {t : TypeId} {cs : Array Value} (hx : Bk w g t cs) (k : Keep (λb => b = g) w w')
include hx k
end
section
variable {w : World} {g g' : Nat} {r : Told} {A1 A2 : Option Addr} {x y : Int} {n1 c1 n2 c2 : Nat}
end
end Go.Proofs.YtknjfpcdhdmghaaGreatDoor
