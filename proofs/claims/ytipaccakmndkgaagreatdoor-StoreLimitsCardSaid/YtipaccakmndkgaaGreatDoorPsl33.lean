/- The walks of perm.each by the closures of RowOut and PosOut. Conditions: as in EdPermC. Strings: cuts, joins, bytes as a string and back. No conditions. The walks of take.Piece and take.Text. Conditions: a text of at most 127 bytes, as New makes it; the table of math/bits stands in its variable. -/
import Derived.Test.YtipaccakmndkgaaGreatDoorPsl30
import Derived.Test.YtipaccakmndkgaaGreatDoorPsl31
import Derived.Test.YtipaccakmndkgaaGreatDoorPsl29
import Derived.Test.YtipaccakmndkgaaGreatDoorPsl28
set_option linter.unusedVariables false
set_option linter.unusedSimpArgs false
set_option maxRecDepth 100000
set_option maxHeartbeats 1000000
namespace Go.Proofs.YtipaccakmndkgaaGreatDoor
open Go.RowKit
section
variable (l : List UInt8) (w : World)
end
end Go.Proofs.YtipaccakmndkgaaGreatDoor
