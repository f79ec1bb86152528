/- The contracts of some of the library's functions at this program, laid. No conditions. -/
import Derived.Shelf.SlSortCmp.Whole1
import Derived.Shelf.SlicesG.Cmp
import Derived.Shelf.SlicesE.IndexFunc
import Derived.Shelf.SlCmpFuncs.BinarySearchFunc
import Derived.Shelf.SlCmpFuncs.None
import Derived.Test.YtlghmcogeipojaaGreatDoorProg
import Derived.Shelf.Sort.Plain
import Derived.Shelf.Spec.TrailingZeros
import Derived.Shelf.Spec.SlicesInsert
import Derived.Shelf.Spec.SlicesInsertGrow
import Derived.Shelf.Slices.Delete
set_option linter.all false
open Go.Proofs Go.Proofs.Tryz Go.Shelf
namespace Go.Proofs.YtlghmcogeipojaaGreatDoor
theorem shR {p:Prop} (h:p:=by kernel_rfl):p:=h
theorem shD {p:Prop} (h:p:=by decide):p:=h
theorem shQ {α:Type} {p:α->Prop} (h:∀x,p x:=by (intro x;kernel_rfl)):∀x,p x:=h
theorem shS {α:Type} {a:Option α} {b c:α} (h:a=some b) (k:b=c:=by kernel_rfl):a=some c:=h.trans (congrArg some k)
def shSort_ren:Ren:=⟨λ|6=>84|15=>120|14=>137|28=>181|29=>182|20=>191|21=>192|22=>193|23=>194|24=>195|25=>196|26=>197|27=>198|46=>224|47=>216|48=>217|49=>225|50=>226|57=>239|n=>n,λ|22=>27|24=>3|25=>93|3=>3|39=>36|0=>0|53=>69|55=>64|4=>4|46=>202|45=>201|50=>132|5=>5|9=>9|66=>229|70=>233|76=>247|77=>98|n=>n,id⟩
def shCmp_ren:Ren:=⟨λ|5=>140|7=>199|n=>n,λ|22=>3|3=>3|4=>4|n=>n,id⟩
def shIdx_ren:Ren:=⟨λ|6=>141|n=>n,λ|22=>27|23=>3|25=>145|3=>3|0=>0|4=>4|n=>n,id⟩
def shBin_ren:Ren:=⟨λ|14=>138|n=>n,λ|22=>27|24=>3|29=>3|32=>93|3=>3|4=>4|35=>36|0=>0|n=>n,id⟩
theorem shSort:SlLaysF.n6 prog shSort_ren:=⟨shR,⟨f84.name,shD,shS func84⟩,⟨f137.name,shD,shS func137⟩,shS func120,⟨f191.name,shD,shS func191⟩,⟨f192.name,shD,shS func192⟩,⟨f193.name,shD,shS func193⟩,⟨f194.name,shD,shS func194⟩,⟨f195.name,shD,shS func195⟩,⟨f196.name,shD,shS func196⟩,⟨f197.name,shD,shS func197⟩,⟨f198.name,shD,shS func198⟩,shS func181,shS func182,⟨f224.name,shD,shS func224⟩,shS func216,shS func217,⟨f225.name,shD,shS func225⟩,⟨f226.name,shD,shS func226⟩,⟨f239.name,shD,shS func239⟩,shR,shQ,shQ,shQ,shR,shQ,shQ,shQ,shR,shQ,shQ,shQ,shR,shQ,shQ,shQ,shR,shQ,shQ,shQ,shR,shQ,shQ,shQ,shQ,shQ,shR,shQ,shQ,shQ,shR,shQ,shQ,shQ,shR,shQ,shQ,shQ,shR,shQ,shQ,shQ,shR,shQ,shQ,shQ,shR,shQ,shQ,shQ,shR,shQ,shQ,shQ,shR,shQ,shQ,shQ,shR,shQ,shQ,shQ,shR,shQ,shQ,shQ,shR,shQ,shQ,shQ⟩
theorem shCmp:SlLaysC2.n5 prog shCmp_ren:=⟨shR,⟨f140.name,shD,shS func140⟩,⟨f199.name,shD,shS func199⟩,shR,shQ,shQ,shQ,shR,shQ,shQ,shQ,shR,shQ,shQ,shQ⟩
theorem shIdx:SlLaysH.n6 prog shIdx_ren:=⟨shR,⟨f141.name,shD,shS func141⟩,shR,shQ,shQ,shQ,shR,shQ,shQ,shQ,shR,shQ,shQ,shQ,shR,shQ,shQ,shQ,shQ,shQ,shR,shQ,shQ,shQ⟩
theorem shBin:SlLaysG2.n14 prog shBin_ren:=⟨shR,⟨f138.name,shD,shS func138⟩,shR,shQ,shQ,shQ,shR,shQ,shQ,shQ,shR,shQ,shQ,shQ,shR,shQ,shQ,shQ,shQ,shQ,shQ,shQ,shR,shQ,shQ,shQ,shR,shQ,shQ,shQ⟩
def shSrt_ren:Ren:=⟨λ|189=>57|125=>120|257=>119|128=>181|129=>182|294=>172|295=>173|296=>174|297=>175|298=>176|299=>177|216=>178|300=>179|301=>180|328=>215|329=>216|330=>217|331=>218|332=>219|215=>199|343=>237|n=>n,λ|28=>27|3=>3|46=>36|0=>0|51=>69|53=>64|4=>4|183=>202|182=>201|131=>132|5=>5|9=>9|218=>229|222=>233|228=>247|229=>98|n=>n,id⟩
def shLen_ren:Ren:=⟨λ|125=>120|128=>181|129=>182|n=>n,λ|46=>36|3=>3|51=>69|53=>64|4=>4|5=>5|9=>9|n=>n,id⟩
theorem shSrt:Lays.n189 prog shSrt_ren:=⟨shR,shS func120,shS func181,shS func182,shS func57,shS func199,shS func178,shS func119,shS func172,shS func173,shS func174,shS func175,shS func176,shS func177,shS func179,shS func180,shS func215,shS func216,shS func217,shS func218,shS func219,shS func237,shR,shQ,shQ,shQ,shR,shQ,shQ,shQ,shR,shQ,shQ,shQ,shR,shQ,shQ,shQ,shR,shQ,shQ,shQ,shR,shQ,shQ,shQ,shR,shQ,shQ,shQ,shR,shQ,shQ,shQ,shR,shQ,shQ,shQ,shR,shQ,shQ,shQ,shR,shQ,shQ,shQ,shR,shQ,shQ,shQ,shR,shQ,shQ,shQ,shR,shQ,shQ,shQ,shR,shQ,shQ,shQ,shR,shQ,shQ,shQ⟩
theorem shLen:Lays.n125 prog shLen_ren:=⟨shR,shS func120,shS func181,shS func182,shR,shQ,shQ,shQ,shR,shQ,shQ,shQ,shR,shQ,shQ,shQ,shR,shQ,shQ,shQ,shR,shQ,shQ,shQ,shR,shQ,shQ,shQ,shR,shQ,shQ,shQ⟩
def shTz_ren:Ren:=⟨λ|29=>250|n=>n,λ|22=>64|3=>3|4=>4|25=>36|54=>258|0=>0|5=>5|n=>n,λ|1=>0|n=>n⟩
theorem shTz:Lays7.n29 prog shTz_ren:=⟨shR,shS func250,shR,shQ,shQ,shQ,shR,shR,shQ,shQ,shQ,shR,shR,shQ,shQ,shQ,shR,shR,shQ,shQ,shQ,shR,shR,shQ,shQ,shQ,shR,shR,shQ,shQ,shQ,shR,shR,shQ,shQ,shR⟩
def shIns_ren:Ren:=⟨λ|21=>88|27=>144|28=>145|35=>200|39=>227|n=>n,λ|22=>27|3=>3|4=>4|0=>0|n=>n,id⟩
def shDel_ren:Ren:=⟨λ|23=>209|n=>n,λ|22=>27|3=>3|4=>4|0=>0|n=>n,id⟩
theorem shIns:Lays2.n21 prog shIns_ren:=⟨shR,shS func88,shS func144,shS func145,shS func200,shS func227,shR,shQ,shQ,shQ,shR,shQ,shQ,shQ,shR,shQ,shQ,shQ,shR,shQ,shQ,shQ,shR⟩
theorem shDel:Lays2.n23 prog shDel_ren:=⟨shR,shS func209,shR,shQ,shQ,shQ,shR,shQ,shQ,shQ,shR,shQ,shQ,shQ,shR,shQ,shQ,shQ,shR⟩
end Go.Proofs.YtlghmcogeipojaaGreatDoor
