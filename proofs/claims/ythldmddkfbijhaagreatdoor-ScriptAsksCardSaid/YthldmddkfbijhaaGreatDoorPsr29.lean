/- Lemmas of the walk. Conditions: each its own. -/
import Derived.Test.YthldmddkfbijhaaGreatDoorPsr2
import Derived.Test.YthldmddkfbijhaaGreatDoorProg
set_option linter.all false
set_option maxRecDepth 100000
set_option maxHeartbeats 1000000
namespace Go.Proofs.YthldmddkfbijhaaGreatDoor
open Go.RowKit
theorem aAK (T D:List UInt8) (k:Nat):(iB T D k).length<=k:=by
 have:=zCu (fun i=>D.isPrefixOf (T.drop i)) (List.range k);rw [zCi] at this;exact this
theorem lS {w:World} {B n:Nat} {A:Option Addr} {l:List UInt8} (hr:Rd w B 1 A n (l.map bv)):∀c,(convert 26 9 (.slice A n c)).run Tryz.prog w=.ok (.string ⟨l.toArray⟩) w:=
 fun c=>gL (P:=Tryz.prog) 26 9 5 Tryz.underlying26 Tryz.underlying5 Tryz.underlying9 hr
theorem Rd.keepF {F:Nat->Prop} {w w':World} {B sz n:Nat} {A:Option Addr} {xs:List Value} (h:Rd w B sz A n xs) (k:Keep F w w') (hB:B<=w.heap.size) (hf:0 < n->∀a,A=some a->¬F a.block):Rd w' w'.heap.size sz A n xs:=
 ⟨h.1,fun hn=>by
   obtain ⟨b,off,e,hb,hc⟩:=h.2 hn;exact ⟨b,off,e,by have:=k.size;omega,fun j u hu=>(k.cell (p:=⟨b,off+j,none⟩) (by simp only;omega) (by exact hf hn ⟨b,off,none⟩ e)).trans (hc j u hu)⟩⟩
end Go.Proofs.YthldmddkfbijhaaGreatDoor
