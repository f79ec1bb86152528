/- Lemmas of the walk. Conditions: each its own. -/
import Derived.WalkKit
import Derived.WalkSpells
import Derived.WalkLawsBesides
import Derived.WalkSmall
import Derived.Lib.Hide
import Derived.Maps.AppendAt
import Derived.Deep.AppendLies
import Derived.Laws.OwnMore
import Derived.OneCell
import Derived.Laws.BytesArg
import Derived.Laws.IdiomStrings
import Derived.ProofKit
import Derived.OpenShut
import Derived.ShutString
import Derived.ChangeOld
import Derived.Carry
import Derived.Laws.BitsLemmas
import Derived.Laws.Bits64
import Derived.Orders
import Derived.BigQuiet
import Derived.Deep.QuietTactic
import Derived.Lib.TrailingZeros
import Derived.LaidMore
import Derived.Lib.LaidTab
import Derived.Stop.Joined
import Derived.SevenTiedAt
import Derived.BigRegion
import Derived.Deep.Cut
import Derived.StillTailTactics
import Derived.LaidEqlPtr
import Derived.Shelf.SlSortCmp.Kit1
import Derived.Deep.LoopGhost
import Derived.Laws.EntriesVeiled
import Derived.Shelf.SlCmpFuncs.None
import Derived.Lib.AppendZeros
import Derived.Lib.LazyBuf
import Derived.Sort.OwnSortedInts
import Derived.Lib.SlBytesConst
import GoSem.Op.String
import Derived.Laws.Rows
import Derived.Laws.Tables
import Derived.Laws.CopyOwn
import Derived.Deep.WholeRow
import Derived.Laws.StructEq
import Derived.Deep.CutRange
import Derived.Shelf.Sort.Plain
import Derived.RangeFuncNested
import Derived.RangeFuncBound
import Derived.RangeFuncCalls
import Derived.RangeFuncLeaves
import Derived.Shelf.Abstract
import Derived.Shelf.RegionOpen
import Derived.OwnWalkIn
import Derived.TacticsInMore
import Derived.LoopNIn
import Derived.LoopIn
import Derived.RangeFuncFrom
import Derived.Laws.AppendOwn
import Derived.Laws.ResultCell
import Derived.Deep.Slices
import Derived.Deep.Fields
import Derived.Test.YtlghmcogeipojaaGreatDoorProg
import Derived.Test.YtlghmcogeipojaaGreatDoorSha
import Derived.Test.YtlghmcogeipojaaGreatDoorRows
set_option linter.all false
set_option maxRecDepth 100000
set_option maxHeartbeats 4000000
open Go.Proofs.Tryz
namespace Go.Proofs.YtlghmcogeipojaaGreatDoor
open Go.RowKit Go
section
abbrev kn:=@IntKind.wrap_u64
abbrev km:=@below_drewN
abbrev kk:=@World.ownsRow.stored
abbrev kj:=@World.ownsRow.form
abbrev ki:=@World.ownsRow_nil
abbrev kh:=@World.ownsRow.cellAt
abbrev kg:=@Below.refl
instance cP:Coe Nat Value:=⟨λg=>.pointer (some ⟨g,0,none⟩)⟩
instance cI:Coe Int Value:=⟨λz=>.int .i64 z⟩
instance cA:Coe Nat Addr:=⟨λg=>⟨g,0,none⟩⟩
def TZ:=Unit
def o0:TZ:=()
instance cO0:Coe TZ Value:=⟨λ_=>.int .i64 0⟩
instance cS0:Coe Unit Value:=⟨λ_=>.slice none 0 0⟩
instance cB0:Coe Bool Value:=⟨.bool⟩
abbrev wI0:=@IntKind.wrap_i64
abbrev sZ0:=@World.size_alloc
abbrev zAa:=@List.getElem?_eq_getElem
abbrev zAb:=@List.getD_eq_getElem?_getD
abbrev zAc:=@List.getElem?_eq_some_iff
abbrev zAd:=@List.mem_of_getElem?
abbrev zAe:=@List.forall_mem_cons
abbrev zAf:=@List.getElem?_map
abbrev zAg:=@List.take_of_length_le
abbrev zAh:=@Array.getElem?_eq_some_iff
abbrev zAi:=@List.length_append
abbrev zAj:=@List.length_take
abbrev zAk:=@Nat.le_trans
abbrev zAl:=@Nat.lt_of_lt_of_le
abbrev zAm:=@Array.getD_eq_getD_getElem?
abbrev zAn:=@List.getElem?_append_left
abbrev zAo:=@List.getElem?_append_right
abbrev zAp:=@Nat.zero_le
abbrev zAq:=@Array.getElem?_eq_getElem
abbrev zAr:=@List.pairwise_iff_getElem
abbrev zAs:=@Nat.le_refl
abbrev zAt:=@List.length_set
abbrev zAu:=@List.take_append_drop
abbrev zAv:=@List.take_add_one
abbrev zAw:=@List.length_drop
abbrev zAx:=@List.drop_eq_getElem_cons
abbrev zAy:=@List.mem_map
abbrev zAz:=@List.map_append
abbrev zBa:=@Nat.eq_zero_or_pos
abbrev zBb:=@Nat.add_sub_cancel
abbrev zBc:=@List.length_map
abbrev zBd:=@Bool.and_eq_true
abbrev zBe:=@Nat.lt_or_ge
abbrev zBf:=@List.all_eq_true
abbrev zBg:=@List.getElem?_eq_none
abbrev zBh:=@List.countP_le_length
abbrev zBi:=@Nat.zero_add
abbrev zBj:=@List.getElem_mem
abbrev zBk:=@List.eq_nil_of_length_eq_zero
abbrev zBl:=@Nat.mul_one
abbrev zBm:=@List.getElem?_set
abbrev zBn:=@List.countP_cons
abbrev zBo:=@List.mem_iff_getElem
abbrev zBp:=@Nat.pow_le_pow_right
abbrev zBq:=@Nat.add_zero
abbrev zBr:=@Int.toNat_natCast
abbrev zBs:=@List.getElem?_take
abbrev zBt:=@List.getElem?_drop
abbrev zBu:=@Nat.mod_eq_of_lt
abbrev zBv:=@List.count_le_length
abbrev zBw:=@if_neg
abbrev zBx:=@if_pos
abbrev zBy:=@decide_eq_false
abbrev zBz:=@decide_eq_true
abbrev zCa:=@decide_eq_true_eq
abbrev zCb:=@beq_eq_false_iff_ne
abbrev zCc:=@List.count_append
abbrev zCd:=@Array.getElem?_setIfInBounds
abbrev zCe:=@Array.getElem?_setIfInBounds_ne
abbrev zCf:=@List.getElem?_cons_succ
abbrev zCg:=@List.length_cons
abbrev zCh:=@List.map_map
abbrev zCi:=@List.length_range
abbrev zCj:=@List.mem_range
abbrev zCk:=@List.getElem?_range
abbrev zCl:=@Nat.lt_irrefl
abbrev zCm:=@Nat.le_of_lt
abbrev zCn:=@List.length_replicate
abbrev zCo:=@List.append_assoc
abbrev zCp:=@List.mem_append
abbrev zCq:=@List.foldl_cons
abbrev zCr:=@beq_iff_eq
abbrev zCs:=@Nat.not_lt
abbrev zCt:=@Nat.add_comm
abbrev zCu:=@Nat.min_eq_left
abbrev zCv:=@Nat.le_of_eq
abbrev zCw:=@List.length_filter_le
abbrev zCx:=@List.mem_filter
abbrev zCy:=@List.getElem?_toArray
abbrev zDa:=@List.mem_singleton
abbrev zDb:=@List.nodup_append
abbrev zDc:=@List.perm_iff_count
abbrev zDd:=@Go.World.cell?_of_block
abbrev zDe:=@List.nodup_cons
abbrev zDf:=@List.mem_cons
abbrev zDg:=@List.count_cons
abbrev zDh:=@List.not_mem_nil
abbrev zDi:=@List.take_append_of_le_length
abbrev zDj:=@Nat.eq_of_testBit_eq
abbrev zDk:=@List.idxOf_lt_length_iff
abbrev zDl:=@List.nodup_range
abbrev zDm:=@List.pairwise_map
abbrev zDn:=@Array.getElem?_eq_none
abbrev zDo:=@List.take_succ_eq_append_getElem
abbrev zDp:=@Nat.add_assoc
abbrev zDq:=@List.getElem?_set_self
abbrev zDr:=@List.getElem?_set_ne
abbrev zDs:=@List.ext_getElem?
abbrev zDt:=@Array.getElem?_setIfInBounds_self_of_lt
abbrev zDu:=@Nat.shiftRight_eq_div_pow
abbrev zDv:=@Array.mem_toList_iff
abbrev zDw:=@List.map_take
abbrev zDx:=@List.range_succ
abbrev zDy:=@List.countP_congr
abbrev zDz:=@Array.getElem?_toList
abbrev zDA:=@Int.tmod_eq_emod_of_nonneg
abbrev zDB:=@Int.eq_ofNat_of_zero_le
abbrev zDC:=@List.drop_append_of_le_length
abbrev zDD:=@Nat.lt_trichotomy
abbrev zDE:=@List.mem_append_left
abbrev zDF:=@Nat.lt_of_le_of_lt
abbrev zDG:=@BitVec.toNat_ofNat
abbrev zDH:=@List.nil_append
abbrev zDI:=@List.flatMap_append
abbrev zDJ:=@List.countP_eq_length
abbrev zDK:=@Nat.sub_self
abbrev zDL:=@List.eq_nil_or_concat
abbrev zDM:=@List.length_nil
abbrev zDN:=@List.take_zero
abbrev zDO:=@Bool.true_and
abbrev zDP:=@Nat.add_sub_cancel_left
abbrev zDQ:=@BitVec.ofInt_natCast
abbrev zDR:=@List.getElem_of_mem
abbrev zDS:=@List.take_succ_cons
abbrev zDT:=@Nat.le_succ
abbrev zDU:=@List.countP_eq_zero
abbrev zDV:=@Go.RowKit.Below.mono
abbrev zDW:=@List.concat_eq_append
abbrev zDX:=@Bool.false_and
abbrev zDY:=@Nat.testBit_two_pow_mul_add
abbrev zDZ:=@Nat.div_le_self
abbrev zEa:=@List.append_nil
abbrev zEb:=@List.map_drop
abbrev zEc:=@UInt8.toNat_ofNat'
abbrev zEd:=@Bool.eq_iff_iff
abbrev zEe:=@List.filter_append
abbrev zEf:=@List.pairwise_cons
abbrev zEg:=@Nat.xor_lt_two_pow
abbrev zEh:=@Nat.testBit_xor
abbrev zEi:=@Nat.testBit_two_pow_mul
abbrev zEj:=@Nat.xor_assoc
abbrev zEk:=@Nat.mul_le_mul_right
abbrev zEl:=@List.any_eq_true
abbrev zEm:=@List.cons_append
abbrev zEn:=@List.isPrefixOf_iff_prefix
abbrev zEo:=@Nat.mod_two_eq_zero_or_one
abbrev zEp:=@Nat.testBit_lt_two_pow
abbrev zEq:=@Option.map_some
abbrev zEr:=@List.countP_map
abbrev zEs:=@List.set_append_right
abbrev zEt:=@Nat.testBit_succ
abbrev zEu:=@List.filter_cons
abbrev zEv:=@List.mem_cons_of_mem
abbrev zEw:=@Go.World.cell?_alloc_lt
abbrev zEx:=@List.pairwise_append
abbrev zEy:=@List.take_take
abbrev zEz:=@List.count_nil
abbrev zEA:=@Go.World.drewN_drewN
abbrev zEB:=@Option.some.injEq
abbrev zEC:=@List.getElem_take
abbrev zED:=@List.getElem_drop
abbrev zEE:=@List.drop_of_length_le
abbrev zEF:=@Option.map_eq_some_iff
abbrev zEG:=@Int.tdiv_eq_ediv_of_nonneg
abbrev zEH:=@Nat.testBit_zero
abbrev zEI:=@List.take_append
abbrev zEJ:=@List.map_cons
abbrev zEK:=@Bool.false_eq_true
abbrev zEL:=@List.mem_cons_self
abbrev zEM:=@Nat.pow_succ
abbrev zEN:=@Nat.and_one_is_mod
abbrev zEO:=@Array.ext_getElem?
abbrev zEP:=@Nat.div_lt_iff_lt_mul
abbrev zEQ:=@Go.DataW.trod_lt
abbrev zER:=@List.mem_or_eq_of_mem_set
abbrev zES:=@Nat.testBit_eq_decide_div_mod_eq
abbrev zET:=@Nat.pow_lt_pow_right
abbrev zEU:=@List.count_eq_countP
abbrev zEV:=@Nat.div_le_div_right
abbrev zEW:=@Nat.testBit_and
abbrev zEX:=@Bool.or_eq_true
abbrev zEY:=@List.take_sublist
abbrev zEZ:=@Nat.testBit_mod_two_pow
abbrev zFa:=@List.drop_succ_cons
abbrev zFb:=@List.map_congr_left
abbrev zFc:=@Nat.and_le_right
abbrev zFd:=@Option.getD_some
abbrev zFe:=@List.exists_mem_of_length_pos
abbrev zFf:=@List.take_length
abbrev zFg:=@Nat.div_div_eq_div_mul
abbrev zFh:=@List.drop_eq_nil_of_le
abbrev zFi:=@Nat.eq_zero_of_not_pos
abbrev zFj:=@List.countP_append
abbrev zFk:=@List.countP_eq_length_filter
abbrev zFl:=@List.getElem_idxOf
abbrev zFm:=@Nat.testBit_two_pow_sub_succ
abbrev zFn:=@Nat.two_pow_pos
abbrev zFo:=@Nat.le_antisymm
abbrev zFp:=@List.singleton_append
abbrev zFq:=@Array.mem_of_getElem?
abbrev zFr:=@Option.some.inj
abbrev zFs:=@Array.ext'
abbrev zFt:=@List.foldl_append
abbrev zFu:=@List.setIfInBounds_toArray
abbrev zFv:=@Array.toList_setIfInBounds
abbrev zFw:=@List.perm_append_singleton
abbrev zFx:=@Go.Claim7.holds_tied_plain_at
abbrev zFy:=@List.mem_of_mem_take
abbrev zFz:=@List.mem_of_mem_drop
abbrev zFA:=@List.drop_zero
abbrev zFB:=@List.drop_drop
abbrev zFC:=@Go.ChangeSpec.witness_shaped
abbrev zFD:=@List.perm_middle
abbrev zFE:=@List.drop_append
abbrev zFF:=@Int.le_refl
abbrev zFG:=@Nat.mod_lt
abbrev zFH:=@Nat.zero_mul
abbrev zFI:=@List.getElem?_take_of_lt
abbrev zFJ:=@Go.RowKit.Below.trod
abbrev zFK:=@Go.World.ownsRow_made
abbrev zFL:=@Nat.eq_or_lt_of_le
abbrev zFM:=@List.getElem_range
abbrev zFN:=@Go.World.block_lt_of_cell?
abbrev zFO:=@Nat.lt_of_le_of_ne
abbrev zFP:=@Go.OpenClaim.holds_of_wide
abbrev zFQ:=@Array.all_eq_true_iff_forall_mem
abbrev zFR:=@Go.World.ownsRow.frozenAt
abbrev zFS:=@List.filter_eq_nil_iff
abbrev zFT:=@List.flatMap_cons
abbrev zFU:=@List.Perm.refl
abbrev zFV:=@List.drop_left
abbrev zFW:=@Go.Sem.run_bind
abbrev zFX:=@List.eq_nil_iff_forall_not_mem
abbrev zFY:=@Nat.mul_comm
abbrev zFZ:=@Array.getElem?_modify
abbrev zGa:=@ByteArray.data_append
abbrev zGb:=@List.perm_append_comm
abbrev zGc:=@Go.World.shaped_of_RefB
abbrev zGd:=@List.Perm.nodup_iff
abbrev zGe:=@Array.getElem?_ofFn
abbrev zGf:=@Nat.mul_le_mul_left
abbrev zGg:=@List.mem_replicate
abbrev zGh:=@Nat.ne_of_lt
abbrev zGi:=@List.map_set
abbrev zGj:=@Nat.testBit_or
abbrev zGk:=@Array.ext
abbrev zGl:=@List.drop_sublist
abbrev zGm:=@Bool.false_or
abbrev zGn:=@Bool.or_false
abbrev zGo:=@ByteArray.ext
abbrev zGp:=@Option.bind_some
abbrev zGq:=@Nat.div_eq_of_lt
abbrev zGr:=@List.getElem_map
abbrev zGs:=@BitVec.toNat_xor
abbrev zGt:=@BitVec.toNat_and
abbrev zGu:=@List.mem_flatMap
abbrev zGv:=@List.map_nil
abbrev zGw:=@Nat.succ_pos
abbrev zGx:=@Nat.xor_comm
def eqx {α:Sort _} (a:α):∃b,a=b:=⟨_,rfl⟩
def tA0 {p:Prop} (h:p:=by repeat' (first|exact jN _ _ | exact lE _|(refine zAe.2 ⟨?_,?_⟩)|(intro p hp;cases hp))):p:=h
def tA1 {p:Prop} (h:p:=by repeat' (first|exact gK _ _ | exact fB _|(refine zAe.2 ⟨?_,?_⟩)|(intro p hp;cases hp))):p:=h
def tA2 {p:Prop} (h:p:=by repeat' (first|exact aGg _ | exact aMA _ _ _|(refine zAe.2 ⟨?_,?_⟩)|(intro p hp;cases hp))):p:=h
def tA3 {p:Prop} (h:p:=by repeat' (first|exact gK _ _ | exact fB _ | exact zT _ _ _ _|(refine zAe.2 ⟨?_,?_⟩)|(intro p hp;cases hp))):p:=h
def tA4 {p:Prop} (h:p:=by repeat' (first|exact aN8 _ | exact aMO|(refine zAe.2 ⟨?_,?_⟩)|(intro p hp;cases hp))):p:=h
def gD {w w'} (a:Below w.drew.heap.size w.drew w'):Below w.heap.size w w':=⟨a.os,a.tape,a.output,a.size,a.block⟩
def oM {p:Prop} (h:p:=by omega):p:=h
def zs {p:Prop} (h:p:=by simp):p:=h
def zt {p:Prop} (h:p:=by (simp;omega)):p:=h
def zj {p q:Prop} (h:q) (k:q->p:=by omega):p:=k h
def zk {p q r:Prop} (h:q) (j:r) (k:q->r->p:=by omega):p:=k h j
def zn (p:Prop) [Decidable p] (h:¬p:=by omega):decide p=false:=decide_eq_false h
def zy (p:Prop) [Decidable p] (h:p:=by omega):decide p=true:=decide_eq_true h
def zu {p:Prop} (h:p:=by (rw [wI0];omega)):p:=h
def zv {p:Prop} (h:p:=by (rw [kn];omega)):p:=h
def zr {p:Prop} (h:p:=by (simp [intOf];omega)):p:=h
def zx {p:Prop} (h:p:=by (unfold maxLen;omega)):p:=h
def dC {p:Prop} (h:p:=by decide):p:=h
def kR {p:Prop} (h:p:=by kernel_rfl):p:=h
def nL {n:Nat}:n<=n:=zAs n
def bR {B w}:Below B w w:=kg B w
def zq1 {α β:Type} {a:β->α->β} {c:β} {b:α} {d:List α}:(b::d).foldl a c=d.foldl a (a c b):=rfl
def zq2 {α β:Type} {b:β->α->β} {a:β}:([]:List α).foldl b a=a:=rfl
def zq3 {α:Type} {c:List α} {b} {a:α}:c.toArray.setIfInBounds b a=(c.set b a).toArray:=zFu c b a
def zq4 {α:Type} {b:List α} {c a:α}:(c::b).set 0 a=a::b:=rfl
def zq5 {α:Type} {c:List α} {a b:α} {n}:(a::c).set (n+1) b=a::c.set n b:=rfl
def lhd {P:Prop} (a:P):Hid P:=Lib.hid a
def hqq2 {a b:Prop} (c:a) (d:b):Hid a/\Hid b:=⟨lhd c,lhd d⟩
def hqq3 {a b c:Prop} (d:a) (f:b) (i:c):Hid a/\Hid b/\Hid c:=⟨lhd d,lhd f,lhd i⟩
def hqq4 {a b c d:Prop} (f:a) (i:b) (j:c) (k:d):Hid a/\Hid b/\Hid c/\Hid d:=⟨lhd f,lhd i,lhd j,lhd k⟩
def hqq5 {a b c d f:Prop} (i:a) (j:b) (k:c) (l:d) (m:f):Hid a/\Hid b/\Hid c/\Hid d/\Hid f:=⟨lhd i,lhd j,lhd k,lhd l,lhd m⟩
def hqq6 {a b c d f i:Prop} (j:a) (k:b) (l:c) (m:d) (o:f) (p:i):Hid a/\Hid b/\Hid c/\Hid d/\Hid f/\Hid i:=⟨lhd j,lhd k,lhd l,lhd m,lhd o,lhd p⟩
def hqq7 {a b c d f i j:Prop} (k:a) (l:b) (m:c) (o:d) (p:f) (q:i) (r:j):Hid a/\Hid b/\Hid c/\Hid d/\Hid f/\Hid i/\Hid j:=⟨lhd k,lhd l,lhd m,lhd o,lhd p,lhd q,lhd r⟩
def hqq8 {a b c d f i j k:Prop} (l:a) (m:b) (o:c) (p:d) (q:f) (r:i) (s:j) (u:k):Hid a/\Hid b/\Hid c/\Hid d/\Hid f/\Hid i/\Hid j/\Hid k:=⟨lhd l,lhd m,lhd o,lhd p,lhd q,lhd r,lhd s,lhd u⟩
def hqq9 {a b c d f i j k l:Prop} (m:a) (o:b) (p:c) (q:d) (r:f) (s:i) (u:j) (v:k) (x:l):Hid a/\Hid b/\Hid c/\Hid d/\Hid f/\Hid i/\Hid j/\Hid k/\Hid l:=⟨lhd m,lhd o,lhd p,lhd q,lhd r,lhd s,lhd u,lhd v,lhd x⟩
def fM {a b} (c:a=b):Ending.returned (.int .i64 a)=Ending.returned (.int .i64 b):=by rw [c]
def bH {a b} (c:a=b):Ending.returned (.bool a)=Ending.returned (.bool b):=by rw [c]
def cS {a b} (c:a=b):Value.int .i64 a=Value.int .i64 b:=by rw [c]
def iT {c:IntKind} {a b} (d:a=b):Value.int c a=Value.int c b:=by rw [d]
def bv (a:UInt8):Value:=.int .u8 a.toNat
def iv (n:Int):Value:=.int .i64 n
def jI (c:List UInt8):∀a∈c.map bv,a.oneCell'=true:=by
 intro a b;obtain ⟨d,_,rfl⟩:=zAy.1 b;rfl
def oN (a c b):(⟨a,c,none⟩:Addr).add b=⟨a,c+b,none⟩:=by
 unfold Addr.add;split <;> simp_all
def Rd (w:World) (B sz:Nat) (A:Option Addr) (n:Nat) (xs:List Value):Prop:=
 xs.length=n*sz/\(0 < n->∃a c,A=some ⟨a,c,none⟩/\a < B/\∀b d,xs[b]?=some d->w.cell? ⟨a,c+b,none⟩=some d)
section
variable {w w' : World} {B B' sz n : Nat} {A : Option Addr} {xs : List Value}
def Rd.nil (w B sz A):Rd w B sz A 0 []:=⟨by simp,λa=>absurd a oM⟩
def Rd.get {k} (c:Rd w B 1 A n xs) (l:k < n):∃a b f,A=some ⟨a,b,none⟩/\a < B/\xs[k]?=some f/\w.cell? ⟨a,b+k,none⟩=some f:=by
 obtain ⟨a,b,e,i,j⟩:=c.2 oM;have d:k < xs.length:=zj c.1
 exact ⟨a,b,xs[k],e,i,zAa d,j k _ (zAa d)⟩
def Rd.keep (b:Rd w B sz A n xs) (i:∀a:Addr,a.block < B->w'.cell? a=w.cell? a):Rd w' B sz A n xs:=
 ⟨b.1,λj=>by
  obtain ⟨d,m,e,c,f⟩:=b.2 j;exact ⟨d,m,e,c,λl o k=>(i _ c).trans (f l o k)⟩⟩
def Rd.mono (a:Rd w B sz A n xs) (hB:B<=B'):Rd w B' sz A n xs:=
 ⟨a.1,λd=>by
  obtain ⟨b,f,e,i,c⟩:=a.2 d;exact ⟨b,f,e,by omega,c⟩⟩
def Rd.below (a:Rd w B sz A n xs) (b:Below B w w'):Rd w' B sz A n xs:=a.keep λ_ c=>b.cell c
def Rd.drew (a:Rd w B sz A n xs):Rd w.drew B sz A n xs:=a
def Rd.drewN (a:Rd w B sz A n xs) (b):Rd (w.drewN b) B sz A n xs:=a
def Rd.alloc (b:Rd w B sz A n xs) (hB:B<=w.heap.size) (a:Obj):Rd (w.alloc a) B sz A n xs:=b.below (bR.alloc hB a)
def Rd.s {b e c} (a:w.ownsRow b e sz (.slice A n c) n xs):Rd w w.heap.size sz A n xs:=by
 refine ⟨a.1,λi=>?_⟩;obtain ⟨g,o,k,_,f⟩:=a.form i;have d:A=some ⟨g,0,none⟩:=by injection k
 subst d;refine ⟨g,0,rfl,f,λl m j=>?_⟩;have:=a.cells (g:=g) rfl l m j;rwa [oN] at this
def dH (A:Option Addr) (b a sz:Nat):Option Addr:=if b=a then A else A.map (·.add (a*sz))
def Rd.cut (a:Rd w B sz A n xs) {k cap} (m:k<=n) (l:n<=cap):Rd w B sz (dH A cap k sz) (n - k) (xs.drop (k*sz)):=by
 refine ⟨by rw [zAw,a.1,Nat.sub_mul],λo=>?_⟩;obtain ⟨b,i,rfl,c,d⟩:=a.2 oM;rw [dH,zBw oM];refine ⟨b,i+k*sz,by simp [oN],c,λp j f=>?_⟩;rw [zDp];exact d _ j (by rw [<-f,zBt])
def Rd.cut_hi (b:Rd w B sz A n xs) {k} (i:k<=n):Rd w B sz A k (xs.take (k*sz)):=by
 have o:k*sz<=n*sz:=zEk _ i;refine ⟨by rw [zAj,b.1];omega,λp=>?_⟩;obtain ⟨c,l,rfl,d,f⟩:=b.2 oM;refine ⟨c,l,rfl,d,λj m a=>f j m ?_⟩;rw [zBs] at a;split at a;exact a
 .cases a
def Rd.aj (c:Rd w B sz A n xs) {k cap} (i:k<=n):Rd w B sz (dH A cap 0 sz) k (xs.take (k*sz)):=by
 have a:=c.cut_hi i;refine ⟨a.1,λj=>?_⟩;obtain ⟨b,l,rfl,d,f⟩:=a.2 j;refine ⟨b,l,?_,d,f⟩;unfold dH;split <;> simp [oN]
end
section
variable {P : Program} (t e : TypeId) (sz : Nat) (ht : P.underlying t = some (.slice e)) (hs : ∀ w, (sizeOf e).run P w = .ok sz w)
include ht hs
def iC (A n b a) (f:a<=n) (w):
 (Instr.sliceAt t (.slice A n b) (some (.int .i64 a)) none none).run P w=.ok (.slice (dH A b a sz) (n - a) (b - a)) w:=by
 have c:P.elem t=e:=by simp [Program.elem,ht]
 have d:P.underlying t=some (.slice (P.elem t)):=by rw [c];exact ht
 rw [run_sliceAt_slice (h:=d),run_slice_l (ht:=d) (h0:=oM) (h1:=oM),c,hs];simp [Result.andThen,sliced,dH]
def jH (A n a b) (f:b<=a) (w):
 (Instr.sliceAt t (.slice A n a) none (some (.int .i64 b)) none).run P w=.ok (.slice (dH A a 0 sz) b a) w:=by
 have c:P.elem t=e:=by simp [Program.elem,ht]
 have d:P.underlying t=some (.slice (P.elem t)):=by rw [c];exact ht
 rw [run_sliceAt_slice (h:=d),run_slice_h (ht:=d) (h0:=oM) (h2:=oM),c,hs];simp [Result.andThen,sliced,dH]
def kN (A n c b a) (j:b<=a) (i:a<=c) (w):
 (Instr.sliceAt t (.slice A n c) (some (.int .i64 b)) (some (.int .i64 a)) none).run P w=.ok (.slice (dH A c b sz) (a - b) (c - b)) w:=by
 have d:P.elem t=e:=by simp [Program.elem,ht]
 have f:P.underlying t=some (.slice (P.elem t)):=by rw [d];exact ht
 rw [run_sliceAt_slice (h:=f),run_slice_lh (ht:=f) (h0:=oM) (h1:=oM) (h2:=oM),d,hs];simp [Result.andThen,sliced,dH]
end
def aZ {w:World} {c:Nat} {e:TypeId} {sz:Nat} {f:Value} {n:Nat} {xs:List Value} (b:w.ownsRow c e sz f n xs):
 ∃A d,f=.slice A n d/\n<=d/\(∀a,A=some a->c<=a.block/\a.block < w.heap.size):=by
 rcases b.2 with ⟨rfl,rfl⟩|⟨g,i,m,rfl,j,k,l,_⟩;exact ⟨none,0,rfl,zAs _,λa b=>by cases b⟩
 .exact ⟨_,i,rfl,l,λa b=>by cases b;exact ⟨j,(zAh.1 k).1⟩⟩
def Bk (w:World) (g:Nat) (t:TypeId) (cs:Array Value):Prop:=w.heap[g]?=some (.cells cs t (0,0))
section
variable {w w' : World} {g : Nat} {t : TypeId} {cs : Array Value}
def Bk.lt (a:Bk w g t cs):g < w.heap.size:=lt_of_block a
def Bk.cell (b:Bk w g t cs) (a):w.cell? ⟨g,a,none⟩=cs[a]?:=cell_of_row w g a cs t (0,0) b
def Bk.frozen (b:Bk w g t cs) (a):w.frozen? ⟨g,a,none⟩=false:=frozen_of_row w g a cs t b
def Bk.new (w:World) (t:TypeId) (cs:Array Value):Bk (w.alloc (.cells cs t)) w.heap.size t cs:=heap_alloc_new w _
abbrev kd:=@Bk.new
def Bk.drew (a:Bk w g t cs):Bk w.drew g t cs:=a
def Bk.drewN (a:Bk w g t cs) (n):Bk (w.drewN n) g t cs:=a
def Bk.alloc (a:Bk w g t cs) (b:Obj):Bk (w.alloc b) g t cs:=(Below.heap_alloc w b g a.lt).trans a
def Bk.set (b:Bk w g t cs) (i a):Bk (w.setCell ⟨g,i,none⟩ a) g t (cs.setIfInBounds i a):=heap_setCell_same w g i cs t a b
def Bk.m (b:Bk w g t cs) {p} (c:g≠p.block) (a):Bk (w.setCell p a) g t cs:=(heap_setCell_other w p g a c).trans b
def Bk.below {B} (a:Bk w g t cs) (b:Below B w w') (c:g < B):Bk w' g t cs:=(b.block g c).trans a
abbrev kf:=@Bk.below
def Bk.grown {row} (a:Bk w g t cs) (b:w.grownBy w' row) (c:some g≠row):Bk w' g t cs:=(b.block g a.lt c).trans a
def Bk.ne {b d f} (c:Bk w g t cs) (a:Bk w b d f) (i:t≠d):g≠b:=by
 rintro rfl;unfold Bk at c a;rw [c] at a;injection a with a;injection a with _ ht;exact i ht
end
structure Keep (F:Nat->Prop) (w w':World):Prop where
 os:w'.os=w.os
 tape:w'.tape=w.tape
 output:w'.output=w.output
 size:w.heap.size<=w'.heap.size
 block:∀k,k < w.heap.size->¬F k->w'.heap[k]?=w.heap[k]?
def kD {F w w'} (a:Keep F w.drew w'):Keep F w w':=⟨a.os,a.tape,a.output,a.size,a.block⟩
section
variable {F G : Nat -> Prop} {w w1 w' : World}
def Keep.refl (F w):Keep F w w:=⟨rfl,rfl,rfl,zAs _,λ_ _ _=>rfl⟩
abbrev ke:=@Keep.refl
def Keep.trans (a:Keep F w w1) (b:Keep F w1 w'):Keep F w w':=
 ⟨b.os.trans a.os,b.tape.trans a.tape,b.output.trans a.output,zAk a.size b.size,λf c d=>(b.block f (zAl c a.size) d).trans (a.block f c d)⟩
def Keep.trans' (a:Keep F w w1) (b:Keep G w1 w') (j:∀c,c < w.heap.size->G c->F c):Keep F w w':=
 ⟨b.os.trans a.os,b.tape.trans a.tape,b.output.trans a.output,zAk a.size b.size,λf d i=>(b.block f (zAl d a.size) (λg=>i (j f d g))).trans (a.block f d i)⟩
def Keep.mono (a:Keep F w w') (i:∀b,b < w.heap.size->F b->G b):Keep G w w':=⟨a.os,a.tape,a.output,a.size,λd c j=>a.block d c (λf=>j (i d c f))⟩
def Keep.j (a:Below w.heap.size w w'):Keep F w w':=⟨a.os,a.tape,a.output,a.size,λc b _=>a.block c b⟩
abbrev kF:=@Keep.j
def Keep.e (a:Keep F w w') {B} (hB:B<=w.heap.size) (d:∀b,b < B->¬F b):Below B w w':=⟨a.os,a.tape,a.output,a.size,λc f=>a.block c oM (d c f)⟩
def Keep.setCell (a:Keep F w w1) {p} (b:F p.block∨w.heap.size<=p.block) (f):Keep F w (w1.setCell p f):=
 ⟨a.os,a.tape,a.output,by simpa [World.setCell] using a.size,λd i c=>(heap_setCell_other w1 p d f (by
  rintro rfl;rcases b with b | b;exact c b
  .omega)).trans (a.block d i c)⟩
abbrev ka:=@Keep.setCell
def Keep.alloc (a:Keep F w w1) (d:Obj):Keep F w (w1.alloc d):=
 ⟨a.os,a.tape,a.output,zAk a.size (by simp),λc b f=>(Below.heap_alloc w1 d c (zAl b a.size)).trans (a.block c b f)⟩
def Keep.drew (a:Keep F w w1):Keep F w w1.drew:=⟨a.os,a.tape,a.output,a.size,a.block⟩
def Keep.drewN (a:Keep F w w1) (n):Keep F w (w1.drewN n):=⟨a.os,a.tape,a.output,a.size,a.block⟩
def Keep.grown (a:Keep F w w1) {row} (b:w1.grownBy w' row) (k:∀d,row=some d->F d∨w.heap.size<=d):Keep F w w':=
 ⟨b.os.trans a.os,b.tape.trans a.tape,b.output.trans a.output,zAk a.size b.size,λc i j=>
  (b.block c (zAl i a.size) (λe=>by rcases k c e.symm with f | f;exact j f;omega)).trans (a.block c i j)⟩
def Keep.cell (a:Keep F w w') {p} (c:p.block < w.heap.size) (b:¬F p.block):w'.cell? p=w.cell? p:=zDd (a.block p.block c b)
def Keep.d {g t cs} (b:Keep F w w') (a:Bk w g t cs) (c:¬F g):Bk w' g t cs:=(b.block g a.lt c).trans a
def Keep.rd {B sz n A xs} (b:Keep F w w') (f:Rd w B sz A n xs) (hB:B<=w.heap.size) (c:∀a,a < B->¬F a):Rd w' B sz A n xs:=
 f.keep λi d=>b.cell oM (c _ d)
end
section
variable {P : Program} (w : World)
def uE (c t k e) (j:TypeInfo) (sz) (ht:P.underlying t=some (.slice e)) (b:P.info? e=some j) (a n xs) (i:w.ownsRow c e sz a n xs) (d):(Builtin.append_ #[t,t] k #[a,.slice none 0 d]).run P w=.ok a w:=by
 rcases i.2 with ⟨rfl,rfl⟩|⟨g,l,m,rfl,_,_,f,_⟩
 .simp [Builtin.append_,run_underlying ht,sizeOf,typeInfo,b,Builtin.lenOf,Builtin.firstCells]
 .simp [Builtin.append_,run_underlying ht,sizeOf,typeInfo,b,Builtin.lenOf,Builtin.firstCells,f,storeCells]
def aBx (k t u e) (f:TypeInfo) (v sz p) (ht:P.underlying t=some (.slice e)) (y:P.info? e=some f) (U:f.zero=some v) (S:f.size=sz) (K:f.bytes=p) (V:v.cells.size=sz) (T:0 < sz) (d n xs) (s:w.ownsRow k e sz d n xs) (B A a q c) (m:Rd w B sz A a c) (C:∀i∈c,i.oneCell'=true) (I:n+a<=maxLen) (L:(n+a)*p<=140737488355328) (J:k<=w.heap.size):
 ∃j w',(Builtin.append_ #[t,t] u #[d,.slice A a q]).run P w=.ok j w'/\w'.ownsRow k e sz j (n+a) (xs++c)/\w.grownBy w' d.ownBlock/\
  (j.ownBlock=d.ownBlock∨j.ownBlock=some w.heap.size):=by
 rcases A with _ | x
 .have O:a=0:=by
   rcases zBa a with b | b;exact b
   .obtain ⟨_,_,l,_⟩:=m.2 b;cases l
  subst O;have r:c= []:=zBk (by simpa using m.1);subst r;exact ⟨d,w,uE w k t u e f sz ht y d n xs s q,by simpa using s,World.grownBy.refl w _,.inl rfl⟩
 .have N:∀o i,c[o]?=some i->w.cell? (x.add o)=some i:=by
   intro o i z;rcases zBa a with b | b
   .subst b;have r:c= []:=zBk (by simpa using m.1);subst r;simp at z
   obtain ⟨W,X,l,_,M⟩:=m.2 b;injection l with l;subst l;rw [oN];exact M o i z
  obtain ⟨j,w',R,D,E,_,H⟩:=run_append_own_at (P:=P) w k t u e f v sz p ht y U S K V T d n xs s x a q c m.1 N C I L J;exact ⟨j,w',R,D,E,H⟩
def fK {k:Oper} {f:Act} {o:Act->World->Prop} {Q:Exit->Act->World->Prop} (q r:Operand) (t:TypeId)
 (I:k.op=.call { callee:=.builtin .append,args:=#[q,r],argTypes:=#[t,t] })
 (i:Nat) (e:TypeId) (c:TypeInfo) (m:Value) (sz l:Nat) (ht:P.underlying t=some (.slice e)) (H:P.info? e=some c) (R:c.zero=some m)
 (M:c.size=sz) (D:c.bytes=l) (S:m.cells.size=sz) (N:0 < sz)
 (d:Value) (n:Nat) (xs:List Value) (hs:f.eval q=d) (J:w.ownsRow i e sz d n xs)
 (B:Nat) (A:Option Addr) (a p:Nat) (j:List Value) (O:f.eval r=.slice A a p) (K:Rd w B sz A a j) (u:∀T∈j,T.oneCell'=true)
 (z:n+a<=maxLen) (E:(n+a)*l<=140737488355328) (C:i<=w.heap.size)
 (s:∀b w',w'.ownsRow i e sz b (n+a) (xs++j)->w.grownBy w' d.ownBlock->(b.ownBlock=d.ownBlock∨b.ownBlock=some w.heap.size)->o (f.put k.dst b) w'):k.wp P f w o Q:=by
 obtain ⟨b,w',L,v,x,y⟩:=aBx (P:=P) w i t k.type e c m sz l ht H R M D S N d n xs J B A a p j K u z E C;unfold Oper.wp execOp;simp only [I,resolve,invoke,builtin,zFW,Sem.run_pure,Result.andThen_ok,List.map_toArray,zEJ,zGv,hs,O,L];exact s b w' v x y
def bE {ops} {r:List Oper} {k f Q} (I:k.guard=none) (m o:Operand) (t) (K:k.op=.call { callee:=.builtin .append,args:=#[m,o],argTypes:=#[t,t] }) (i e) (c:TypeInfo) (p sz l) (ht:P.underlying t=some (.slice e)) (J:P.info? e=some c) (S:c.zero=some p) (N:c.size=sz) (E:c.bytes=l) (T:p.cells.size=sz) (O:0 < sz) (d n xs) (hs:f.eval m=d) (L:w.ownsRow i e sz d n xs) (B A a q j) (R:f.eval o=.slice A a q) (M:Rd w B sz A a j) (u:∀U∈j,U.oneCell'=true) (z:n+a<=maxLen) (H:(n+a)*l<=140737488355328) (D:i<=w.heap.size) (s:∀b w',w'.ownsRow i e sz b (n+a) (xs++j)->w.grownBy w' d.ownBlock->(b.ownBlock=d.ownBlock∨b.ownBlock=some w.heap.size)->wpList P ops Q r (f.put k.dst b) w'):wpList P ops Q (k::r) f w:=
 wpList_plain I λ_ C=>fK w m o t K i e c p sz l ht J S N E T O d n xs hs L B A a q j R M u z H D λb w' v x y=>C _ _ (s b w' v x y)
end
def Rd.cm (w:World) (e:TypeId) (sz:Nat) (cs:Array Value) (hs:cs.size=sz):Rd (w.alloc (.cells cs e)) (w.heap.size+1) sz (some ⟨w.heap.size,0,none⟩) 1 cs.toList:=by
 refine ⟨by simp [hs],λ_=>⟨_,0,rfl,by omega,λb c a=>?_⟩⟩;rw [(kd w e cs).cell];simpa using a
def Rd.made (w:World) (e:TypeId) (sz n:Nat) (cs:Array Value) (hs:cs.size=n*sz):Rd (w.alloc (.cells cs e)) (w.alloc (.cells cs e)).heap.size sz (some ⟨w.heap.size,0,none⟩) n cs.toList:=by
 refine ⟨by simp [hs],λ_=>⟨_,0,rfl,by simp,λb c a=>?_⟩⟩;rw [(kd w e cs).cell];simpa using a
def Rd.bt (w:World) (e:TypeId) (sz n:Nat) (cs:Array Value) (g:Nat) (hs:cs.size=n*sz) (a:g=w.heap.size):Rd (w.alloc (.cells cs e)) (w.alloc (.cells cs e)).heap.size sz (some ⟨g,0,none⟩) n cs.toList:=by
 subst a;exact Rd.made w e sz n cs hs
structure Made (w:World) (B:Nat) (e:TypeId) (sz:Nat) (A:Option Addr) (n c:Nat) (xs:List Value):Prop where
 own:w.ownsRow B e sz (.slice A n c) n xs
 rd:Rd w w.heap.size sz A n xs
 cap:n<=c
 max:c<=maxLen
def aR {w B e sz c n xs} (a:w.ownsRow B e sz c n xs):∃A b,c=.slice A n b/\Made w B e sz A n b xs:=by
 rcases a.2 with ⟨rfl,rfl⟩|⟨g,d,j,rfl,k,l,i,f,_⟩;exact ⟨none,0,rfl,a,Rd.s a,zAs _,zAp _⟩;exact ⟨_,d,rfl,a,Rd.s a,i,f⟩
def Made.below {w w' B e sz A n c xs} (b:Made w B e sz A n c xs) (a:Below w.heap.size w w'):Made w' B e sz A n c xs:=
 ⟨b.own.kept (row:=none) ⟨a.os,a.tape,a.output,a.size,λf d _=>a.block f d⟩ (by cases A <;> simp [Value.ownBlock]),(b.rd.below a).mono a.size,b.cap,b.max⟩
def Made.len {w B e A n a xs} (b:Made w B e 1 A n a xs):xs.length=n:=by have:=b.rd.1;omega
def kX (w:World) (e:TypeId) (sz:Nat):(w.alloc (.cells #[] e)).ownsRow w.heap.size e sz (.slice (some w.heap.size) 0 0) 0 []:=
 zFK w #[] 0 nL (zAp _) (by simp)
def aP {w w' B e sz n b xs} (c:w.ownsRow B e sz b n xs) (a:Below w.heap.size w w'):w'.ownsRow B e sz b n xs:=
 c.kept (row:=none) ⟨a.os,a.tape,a.output,a.size,λf d _=>a.block f d⟩ (by cases b.ownBlock <;> simp)
def bC {w b e t sz n g a xs cs} (d:w.ownsRow b e sz a n xs) (i:Bk w g t cs) (k:e≠t):some g≠a.ownBlock:=by
 rcases d.2 with ⟨rfl,_⟩|⟨c,l,m,rfl,_,j,_⟩
 .simp [Value.ownBlock]
 intro f;have:g=c:=(by simpa [Value.ownBlock] using f);subst this;exact Bk.ne (t:=e) j i k rfl
def aGE {w:World} {b1 b2:Nat} {b c:TypeId} {o p l m:Nat} {a d:Value} {q r:List Value} (f:w.ownsRow b1 b o a l q) (i:w.ownsRow b2 c p d m r) (k:c≠b):a.ownBlock=none∨a.ownBlock≠d.ownBlock:=by
 rcases f.2 with ⟨rfl,_⟩|⟨g,s,u,rfl,_,j,_⟩;exact .inl rfl;exact .inr (bC i j k)
def cG {w:World} {B B':Nat} {e:TypeId} {sz n:Nat} {c:Value} {xs:List Value} (b:w.ownsRow B e sz c n xs) (hB:B'<=B):w.ownsRow B' e sz c n xs:=by
 refine ⟨b.1,?_⟩;rcases b.2 with a |⟨g,d,f,a,i,j⟩;exact .inl a;exact .inr ⟨g,d,f,a,zAk hB i,j⟩
def aAw {w w':World} {c:Obj} {row:Option Nat} (a:(w.alloc c).grownBy w' row):w.grownBy w' row:=
 ⟨a.os,a.tape,a.output,zAk (by simp) a.size,λb d f=>(a.block b (by simp;omega) f).trans (Below.heap_alloc w c b d)⟩
def bP {P:Program} {w:World} {ops:Array Oper} {p:List Oper} {i:Oper} {d:Act} {Q:Exit->Act->World->Prop} (cs:Array Value) (C:i.guard=none) (k l:Operand) (t:TypeId)
 (E:i.op=.call { callee:=.builtin .append,args:=#[k,l],argTypes:=#[t,t] })
 (f:Nat) (e:TypeId) (b:TypeInfo) (m:Value) (sz j:Nat) (ht:P.underlying t=some (.slice e)) (D:P.info? e=some b) (L:b.zero=some m)
 (I:b.size=sz) (x:b.bytes=j) (M:m.cells.size=sz) (J:0 < sz)
 (c:Value) (n:Nat) (xs:List Value) (hs:d.eval k=c) (H:w.ownsRow f e sz c n xs)
 (K:d.eval l=.slice (some w.heap.size) 1 1) (z:cs.size=sz) (r:∀N∈cs.toList,N.oneCell'=true)
 (v:n+1<=maxLen) (y:(n+1)*j<=140737488355328) (O:f<=w.heap.size)
 (q:∀a w',w'.ownsRow f e sz a (n+1) (xs++cs.toList)->w.grownBy w' c.ownBlock->w.heap.size < w'.heap.size->(a.ownBlock=c.ownBlock∨a.ownBlock=some (w.heap.size+1))->wpList P ops Q p (d.put i.dst a) w'):wpList P ops Q (i::p) d (w.alloc (.cells cs e)):=
 bE _ C k l t E f e b m sz j ht D L I x M J c n xs hs (H.alloc _) _ _ 1 1 cs.toList K (Rd.cm w e sz cs z) r v y (by simp;omega)
  λa w' s o u=>q a w' s (aAw o) (by have:=o.size;simp at this;omega) (by simpa using u)
def aEq {P} (t) (d:P.underlying t=some .string) (b:ByteArray) (a) (f:a < b.size) (c):
 (Instr.index t (.string b) (.int .i64 a)).run P c=.ok (.int .u8 ((b[a]'f).toNat:Int)) c:=by
 rw [run_index_string (h:=d),dif_pos oM];rfl
def nX {P:Program} {w:World} {B n f:Nat} {A:Option Addr} {a:List UInt8} (d b e:TypeId) (hs:P.underlying d=some (.slice e)) (k:P.underlying e=some (.int .u8)) (j:P.underlying b=some .string)
 (m:Rd w B 1 A n (a.map bv)):(convert d b (.slice A n f)).run P w=.ok (.string ⟨a.toArray⟩) w:=by
 have q:a.length=n:=by simpa using m.1
 subst q;rcases zBa a.length with i | i;have:a= []:=zBk i;subst this;have s:=run_loadCells_list (P:=P) w (A.getD ⟨0,0,none⟩) [] (λl v c=>by simp at c);rcases A with _ | o;exact run_convert_bytes_nil w d e hs k _ _ b j;exact run_convert_bytes_back w d b e o f [] hs k j (λl c=>by simp at c)
 .obtain ⟨r,u,rfl,_,p⟩:=m.2 i;refine run_convert_bytes_back w d b e _ f a hs k j λl c=>?_;rw [oN];exact p l _ (by rw [zAf,zAa c];rfl)
def tB {P:Program} {b:FuncId} {a:Array Value} {w:World} {n:Nat} {c:Value}
 (d:Calls P b a (w.drewN n) λe w'=>e=.returned c/\w.drewN n=w'):Calls P b a (w.drewN n) λe k=>e=.returned c/\∃j,k=w.drewN j:=
 d.mono λ_ _ ⟨f,i⟩=>⟨f,n,i.symm⟩
def aX {B w0 w w' e sz n a xs} (b:Below B w0 w) (f:w.ownsRow B e sz a n xs) (c:w.grownBy w' a.ownBlock) (hB:B<=w.heap.size):Below B w0 w':=
 b.grown c hB λi d=>(f.lt i d).1
end
def bQ (b n:Nat):Nat:=(List.range n).countP (λa=>b.testBit a)
def rI (a):bQ a 0=0:=rfl
def dW (a n):bQ a (n+1)=bQ a n+if a.testBit n then 1 else 0:=by
 unfold bQ;rw [zDx,zFj,List.countP_singleton]
def rJ (a n):bQ a n<=n:=by
 induction n with
 | zero=>exact zAs _
 | succ n b=>
  rw [dW];split <;> omega
def aEM (b n a):bQ b (n+a)=bQ b n+bQ (b >>> n) a:=by
 induction a with
 | zero=>simp [rI]
 | succ a c=>
  rw [<-zDp,dW,c,dW,Nat.testBit_shiftRight];omega
def aEL (a n):bQ (a % 2 ^ n) n=bQ a n:=by
 unfold bQ;apply zDy;intro c b;have:=zCj.1 b;simp [zEZ,this]
def gG (A) {d} (k) {c a} (p:d < 256) (hs:a<=8) (l:c < 2 ^(8 - a)):((256*A+d)>>> a)&&&(256*k+c)=256*((A >>> a)&&& k)+((d >>> a)&&& c):=by
 apply zDj;intro b;have m:c < 2 ^ 8:=zAl l (zBp dC oM);have o:((d >>> a)&&& c) < 2 ^ 8:=zDF zFc m;rw [zEW,Nat.testBit_shiftRight,show (256:Nat)=2 ^ 8 by decide,zDY _ (by simpa using p),zDY _ m,zDY _ o];by_cases j:b < 8
 .by_cases f:a+b < 8
  .simp [j,f,zEW]
  .have i:c.testBit b=false:=zEp (zAl l (zBp dC oM));simp [j,f,zEW,i]
 .have f:¬(a+b < 8):=oM;have i:a+b - 8=a+(b - 8):=oM;simp [j,f,i,zEW]
def b1 (a:Nat):Nat:=(a >>> 1&&& 85)+(a&&& 85)
def b2 (a:Nat):Nat:=(a >>> 2&&& 51)+(a&&& 51)
def aPo:∀a:Fin 256,b1 a.val < 256/\b2 (b1 a.val)/ 16<=4/\b2 (b1 a.val)% 16<=4/\b2 (b1 a.val)% 16+b2 (b1 a.val)/ 16=bQ a.val 8:=by decide+kernel
def aE7 {a} (b:a < 256):b1 a < 256/\b2 (b1 a)/ 16<=4/\b2 (b1 a)% 16<=4/\b2 (b1 a)% 16+b2 (b1 a)/ 16=bQ a 8:=aPo ⟨a,b⟩
def cT (a b c d f i j k:Nat):Nat:=256*(256*(256*(256*(256*(256*(256*(256*0+k)+j)+i)+f)+d)+c)+b)+a
def tI {d f i j k l m o} (b a) (p:d < 256) (q:f < 256) (r:i < 256) (s:j < 256) (u:k < 256) (v:l < 256) (x:m < 256) (y:o < 256) (hs:b<=8) (c:a < 2 ^(8 - b)):
 (cT d f i j k l m o >>> b)&&& cT a a a a a a a a=cT (d >>> b&&& a) (f >>> b&&& a) (i >>> b&&& a) (j >>> b&&& a) (k >>> b&&& a) (l >>> b&&& a) (m >>> b&&& a) (o >>> b&&& a):=by
 unfold cT;rw [gG _ _ p hs c,gG _ _ q hs c,gG _ _ r hs c,gG _ _ s hs c,gG _ _ u hs c,gG _ _ v hs c,gG _ _ x hs c,gG _ _ y hs c];simp
def wS (b c d f i j k l a) (m:b < 256) (o:c < 256) (p:d < 256) (q:f < 256) (r:i < 256) (s:j < 256) (u:k < 256) (v:l < 256) (x:a < 256):
 cT b c d f i j k l&&& cT a a a a a a a a=cT (b&&& a) (c&&& a) (d&&& a) (f&&& a) (i&&& a) (j&&& a) (k&&& a) (l&&& a):=by
 have:=tI 0 a m o p q r s u v oM (by simpa using x);simpa using this
def lA (a b c d f i j k l m o p q r s u):
 cT a b c d f i j k+cT l m o p q r s u=cT (a+l) (b+m) (c+o) (d+p) (f+q) (i+r) (j+s) (k+u):=by
 unfold cT;omega
def aEi (a:Nat):Nat:=
 let b:=(a >>> 1&&& 6148914691236517205)+(a&&& 6148914691236517205)
 let c:=(b >>> 2&&& 3689348814741910323)+(b&&& 3689348814741910323)
 (c >>> 4+c)&&& 1085102592571150095
def aLK {a} (b:a < 18446744073709551616):a=cT (a % 256) (a / 256 % 256) (a / 65536 % 256) (a / 16777216 % 256) (a / 4294967296 % 256) (a / 1099511627776 % 256) (a / 281474976710656 % 256) (a / 72057594037927936 % 256):=by
 unfold cT;omega
def aF8 (k l m o p q r s) (x:k < 256) (y:l < 256) (z:m < 256) (C:o < 256) (D:p < 256) (E:q < 256) (H:r < 256) (I:s < 256):
 aEi (cT k l m o p q r s)=cT (bQ k 8) (bQ l 8) (bQ m 8) (bQ o 8) (bQ p 8) (bQ q 8) (bQ r 8) (bQ s 8):=by
 have X:(6148914691236517205:Nat)=cT 85 85 85 85 85 85 85 85:=dC;have Z:(3689348814741910323:Nat)=cT 51 51 51 51 51 51 51 51:=dC;have a0:(1085102592571150095:Nat)=cT 15 15 15 15 15 15 15 15:=dC;obtain ⟨J,a1,ah,a9⟩:=aE7 x;obtain ⟨K,a2,ai,aa⟩:=aE7 y;obtain ⟨L,a3,aj,ab⟩:=aE7 z;obtain ⟨M,a4,ak,ac⟩:=aE7 C;obtain ⟨N,a5,al,ad⟩:=aE7 D;obtain ⟨O,a6,am,ae⟩:=aE7 E;obtain ⟨R,a7,an,af⟩:=aE7 H;obtain ⟨S,a8,ao,ag⟩:=aE7 I;have U:(cT k l m o p q r s >>> 1&&& 6148914691236517205)+(cT k l m o p q r s&&& 6148914691236517205)=cT (b1 k) (b1 l) (b1 m) (b1 o) (b1 p) (b1 q) (b1 r) (b1 s):=by rw [X,tI 1 85 x y z C D E H I oM dC,wS _ _ _ _ _ _ _ _ 85 x y z C D E H I oM,lA];rfl
 have V:(cT (b1 k) (b1 l) (b1 m) (b1 o) (b1 p) (b1 q) (b1 r) (b1 s)>>> 2&&& 3689348814741910323)+(cT (b1 k) (b1 l) (b1 m) (b1 o) (b1 p) (b1 q) (b1 r) (b1 s)&&& 3689348814741910323)=cT (b2 (b1 k)) (b2 (b1 l)) (b2 (b1 m)) (b2 (b1 o)) (b2 (b1 p)) (b2 (b1 q)) (b2 (b1 r)) (b2 (b1 s)):=by rw [Z,tI 2 51 J K L M N O R S oM dC,wS _ _ _ _ _ _ _ _ 51 J K L M N O R S oM,lA];rfl
 have W:∀u a b c d f i j:Nat,u / 16<=4->u % 16<=4->a / 16<=4->a % 16<=4->b / 16<=4->b % 16<=4->c / 16<=4->c % 16<=4->d / 16<=4->d % 16<=4->f / 16<=4->f % 16<=4->i / 16<=4->i % 16<=4->j / 16<=4->j % 16<=4->
  (cT u a b c d f i j >>> 4+cT u a b c d f i j)&&& 1085102592571150095=cT (u % 16+u / 16) (a % 16+a / 16) (b % 16+b / 16) (c % 16+c / 16) (d % 16+d / 16) (f % 16+f / 16) (i % 16+i / 16) (j % 16+j / 16):=by
  intro u a b c d f i j ap az aq aA ar aB au aC av aD aw aE ax aF ay aG;have T:cT u a b c d f i j >>> 4=cT (u / 16+16*(a % 16)) (a / 16+16*(b % 16)) (b / 16+16*(c % 16)) (c / 16+16*(d % 16)) (d / 16+16*(f % 16)) (f / 16+16*(i % 16)) (i / 16+16*(j % 16)) (j / 16):=by rw [zDu];unfold cT;omega
  have Y:∀v:Nat,v&&& 15=v % 16:=λv=>Nat.and_two_pow_sub_one_eq_mod v 4;rw [T,lA,a0,wS _ _ _ _ _ _ _ _ 15 oM oM oM oM oM oM oM oM oM];simp only [Y];congr 1 <;> omega
 unfold aEi;simp only;rw [U,V,W _ _ _ _ _ _ _ _ a1 ah a2 ai a3 aj a4 ak a5 al a6 am a7 an a8 ao,a9,aa,ab,ac,ad,ae,af,ag]
def aKh {k j i f d c b a} (x:k<=8) (y:j<=8) (z:i<=8) (C:f<=8) (D:d<=8) (E:c<=8) (H:b<=8) (I:a<=8) {l m q} (o:l=cT k j i f d c b a+cT k j i f d c b a / 256) (p:m=l+l / 65536) (r:q=m+m / 4294967296):
 q % 128=k+j+i+f+d+c+b+a/\q < 18446744073709551616:=by
 have s:cT k j i f d c b a / 256=cT j i f d c b a 0:=by unfold cT;omega
 rw [s,lA] at o;have u:l / 65536=cT (i+f) (f+d) (d+c) (c+b) (b+a) (a+0) 0 0:=by rw [o];unfold cT;omega
 rw [u,o,lA] at p;have v:m / 4294967296=cT (d+c+(b+a)) (c+b+(a+0)) (b+a+0) (a+0+0) 0 0 0 0:=by rw [p];unfold cT;omega
 rw [v,p,lA] at r;unfold cT at r;omega
def aGG (a):bQ a 64=bQ (a % 256) 8+bQ (a / 256 % 256) 8+bQ (a / 65536 % 256) 8+bQ (a / 16777216 % 256) 8+bQ (a / 4294967296 % 256) 8+bQ (a / 1099511627776 % 256) 8+bQ (a / 281474976710656 % 256) 8+bQ (a / 72057594037927936 % 256) 8:=by
 have b:=λc=>aEL c 8;simp only [show (2:Nat)^ 8=256 by decide] at b;simp only [b];rw [show (64:Nat)=8+(8+(8+(8+(8+(8+(8+8)))))) by decide];simp only [aEM];simp only [zDu,zFg,show (2:Nat)^ 8=256 by decide,Nat.reduceMul];omega
def aPm {a} (k:a < 18446744073709551616) {c d f} (i:c=aEi a+aEi a / 256) (l:d=c+c / 65536) (m:f=d+d / 4294967296):f % 128=bQ a 64/\f < 18446744073709551616:=by
 have e:=aLK k;have j:=aF8 (a % 256) (a / 256 % 256) (a / 65536 % 256) (a / 16777216 % 256) (a / 4294967296 % 256) (a / 1099511627776 % 256) (a / 281474976710656 % 256) (a / 72057594037927936 % 256) oM oM oM oM oM oM oM oM;rw [<-e] at j;rw [j] at i;have b:=λo=>rJ o 8;rw [aGG a];exact aKh (b _) (b _) (b _) (b _) (b _) (b _) (b _) (b _) i l m
section
section
variable {P : Program} {ops : Array Oper} {Q : Exit -> Act -> World -> Prop} {md : Region.Mode}
def uJ (md:Region.Mode) (ops:Array Oper) (a t:Nat):Bool:=
 (List.range ops.size).all λb=>match ops[b]? with
  | some c=>c.dst != some t||b==a||c.after.toList.any (λe=>Region.binds md e&&e.on==a)
  | none=>true
def kL (md:Region.Mode) (ops:Array Oper) (n:Nat):Bool:=
 (List.range ops.size).all λa=>match ops[a]? with
  | some d=>d.after.toList.all (λe=> !Region.binds md e||decide (e.on < a))&&
   (match d.dst with | some b=>decide (b < n)&&(List.range ops.size).all (λc=>c==a||((ops[c]?).bind (·.dst))!= some b)| none=>true)
  | none=>true
def pZ {n} (m:kL md ops n=true) {b i} (k:ops[b]?=some i):
 (∀e∈i.after,Region.binds md e=true->e.on < b)/\∀c,i.dst=some c->c < n/\∀a j,ops[a]?=some j->j.dst=some c->a=b:=by
 have s:b < ops.size:=(zAh.1 k).1;have d:=zBf.1 m b (zCj.2 s);simp only [k,zBd] at d;refine ⟨λe q o=>?_,λc p=>?_⟩;have:=zBf.1 d.1 e (zDv.2 q);simpa [o] using this;have f:=d.2;simp only [p,zBd,zCa] at f;refine ⟨f.1,λa j l u=>?_⟩;have r:a < ops.size:=(zAh.1 l).1;have:=zBf.1 f.2 a (zCj.2 r);simp only [l,zGp,u,zEX,zCr,bne_self_eq_false,zEK,or_false] at this;exact this
def aMU {d t} (j:uJ md ops d t=true) {b f} (i:ops[b]?=some f) (k:f.dst=some t):
 b=d∨∃e∈f.after,Region.binds md e=true/\e.on=d:=by
 have m:b < ops.size:=(zAh.1 i).1;have a:=zBf.1 j b (zCj.2 m);simp only [i,k,zEX,zCr,bne_self_eq_false,zEK,false_or] at a;rcases a with a | a;exact .inl a;obtain ⟨e,l,c⟩:=zEl.1 a;simp only [zBd,zCr] at c;exact .inr ⟨e,zDv.1 l,c.1,c.2⟩
def jP {b:Array Bool} {a:Nat} (d:a < b.size) (c:Bool):(b.setIfInBounds a true).getD a c=true:=by simp [d]
def xY {f:Array Bool} {b a:Nat} (c:(f.setIfInBounds b true).getD a false=true):a=b∨f.getD a false=true:=by
 by_cases d:b=a;exact .inl d.symm;rw [getD_set_ne false d] at c;exact .inr c
def eC (P:Program) (ops:Array Oper) (Q:Exit->Act->World->Prop) (md:Region.Mode) (f:World->World->Prop) (i:Nat->Value->World->Prop) (b:Act) (o:World) (c:Nat) (k:Oper):Prop:=
 ∀a w,f o w->a.tmps.size=b.tmps.size->a.defers=b.defers->
  (∀t,uJ md ops c t=true->a.tmps.getD t undef=b.tmps.getD t undef)->
  (∀e∈k.after,Region.binds md e=true->∀l j,ops[e.on]?=some l->l.dst=some j->i e.on (a.tmps.getD j undef) w)->
  ∀d:Act->World->Prop,(∀m w',f w w'->i c m w'->d (a.put k.dst m) w')->wpOp P ops Q c d a w
def tX {m:World->World->Prop} {o r q l a} (H:ops[l]?=some a) (D:a.guard=none) (v:∀c:Operand->Value,∀w,m q w->(∀d,c (.const d)=d)->(∀s,c (.func s)=.func (.func s) #[] #[])->(∀t,uJ md ops l t=true->c (.tmp t)=r.eval (.tmp t))->
 (∀k i,a.after.toList.any (λe=>Region.binds md e&&e.on==k)=true->((ops[k]?).bind (·.dst))=some i->o k (c (.tmp i)) w)->
 ∀b f,b.eval=c->(∀d w',m w w'->o l d w'->f (b.put a.dst d) w')->Oper.upon P a b f Q ((execOp c a).run P w)):eC P ops Q md m o r q l a:=by
 intro b w z N M I J f y;unfold wpOp;simp only [H];have K:Region.wanted a (yielded ops b.tmps)=true:=by unfold Region.wanted;rw [D]
 rw [zBx K];refine .inl (v b.eval w z (λ_=>rfl) (λ_=>rfl) (λt ht=>I t ht) (λk i E j=>?_) b f rfl y);obtain ⟨e,C,u⟩:=zEl.1 E;simp only [zBd,zCr] at u;obtain ⟨x,rfl⟩:=u;cases p:ops[e.on]? with
 | none=>rw [p] at j;cases j
 | some L=>rw [p] at j;exact J e (zDv.1 C) x L i p j
def nU {m:World->World->Prop} {k u r q g a o c} (M:ops[q]?=some c) (J:c.guard=some (g,o)) (z:((ops[g]?).bind (·.dst))=some a) (K:c.after.toList.any (λe=>Region.binds md e&&e.on==g)=true) (O:∀f w,m r w->k g f w->f=.bool o) (D:∀j:Operand->Value,∀w,m r w->(∀f,j (.const f)=f)->(∀v,j (.func v)=.func (.func v) #[] #[])->(∀t,uJ md ops q t=true->j (.tmp t)=u.eval (.tmp t))->
 (∀d a,c.after.toList.any (λe=>Region.binds md e&&e.on==d)=true->((ops[d]?).bind (·.dst))=some a->k d (j (.tmp a)) w)->
 ∀b l,b.eval=j->(∀f w',m w w'->k q f w'->l (b.put c.dst f) w')->Oper.upon P c b l Q ((execOp j c).run P w)):eC P ops Q md m k u r q c:=by
 intro b w y V U N R l H;have C:∀d a,c.after.toList.any (λe=>Region.binds md e&&e.on==d)=true->((ops[d]?).bind (·.dst))=some a->k d (b.eval (.tmp a)) w:=by
  intro d a L p;obtain ⟨e,I,x⟩:=zEl.1 L;simp only [zBd,zCr] at x;obtain ⟨E,rfl⟩:=x;cases s:ops[e.on]? with
  | none=>rw [s] at p;cases p
  | some T=>rw [s] at p;exact R e (zDv.1 I) E T a s p
 have i:=O _ _ y (C g a K z);unfold wpOp;simp only [M];have S:Region.wanted c (yielded ops b.tmps)=true:=by
  unfold Region.wanted;rw [J];have:yielded ops b.tmps g=some o:=by
   unfold yielded;rw [z];change b.tmps.getD a undef=.bool o at i;rw [zAm] at i;rw [zGp];cases ht:b.tmps[a]? with
   | none=>rw [ht] at i;cases i
   | some W=>rw [ht] at i;simp only [zFd] at i;rw [i]
  simp only [this,beq_self_eq_true]
 rw [zBx S];exact .inl (D b.eval w y (λ_=>rfl) (λ_=>rfl) (λt ht=>N t ht) C b l rfl H)
def dV {j:World->World->Prop} {k r o m g d b f} (D:ops[m]?=some f) (z:f.guard=some (g, !b)) (c:((ops[g]?).bind (·.dst))=some d) (C:f.after.toList.any (λe=>Region.binds md e&&e.on==g)=true) (H:∀q w,j o w->k g q w->q=.bool b) (E:∀w,j w w) (s:∀w,k m undef w):eC P ops Q md j k r o m f:=by
 intro i w x O M N I L v;obtain ⟨e,y,p⟩:=zEl.1 C;simp only [zBd,zCr] at p;obtain ⟨u,rfl⟩:=p;have a:i.tmps.getD d undef=.bool b:=by
  cases l:ops[e.on]? with
  | none=>rw [l] at c;cases c
  | some K=>rw [l] at c;exact H _ _ x (I e (zDv.1 y) u K d l c)
 unfold wpOp;simp only [D];have J:Region.wanted f (yielded ops i.tmps)=false:=by
  unfold Region.wanted;rw [z];have:yielded ops i.tmps e.on=some b:=by
   unfold yielded;rw [c];rw [zAm] at a;rw [zGp];cases ht:i.tmps[d]? with
   | none=>rw [ht] at a;cases a
   | some R=>rw [ht] at a;simp only [zFd] at a;rw [a]
  simp only [this];cases b <;> rfl
 rw [zBw (by rw [J];decide)];exact v _ _ (E w) (s w)
def aB {c:Nat->Oper->Prop} {f}:∀a b,([]:List Oper)[a]?=some b->c (f+a) b:=by intro a b d;simp at d
def aD {f:Nat->Oper->Prop} {c j} {i:List Oper} (k:f c j) (l:∀a b,i[a]?=some b->f (c+1+a) b):∀a b,(j::i)[a]?=some b->f (c+a) b:=by
 intro a b d;cases a with
 | zero=>simp at d;subst d;exact k
 | succ a=>simp at d;have:=l a b d;rwa [show c+1+a=c+(a+1) by omega] at this
def sC {P ops Q md} {S:World->World->Prop} {V a0 W0 k o} {l:List Oper} (h:∀ev:Operand->Value,∀w,S W0 w->(∀v,ev (.const v)=v)->(∀f,ev (.func f)=.func (.func f) #[] #[])->(∀t,uJ md ops k t=true->ev (.tmp t)=a0.eval (.tmp t))->(∀i d,o.after.toList.any (λe=>Region.binds md e&&e.on==i)=true->((ops[i]?).bind (·.dst))=some d->V i (ev (.tmp d)) w)->∀a K,a.eval=ev->(∀v w',S w w'->V k v w'->K (a.put o.dst v) w')->Oper.upon P o a K Q ((execOp ev o).run P w)) (hl:∀j p,l[j]?=some p->eC P ops Q md S V a0 W0 (k+1+j) p) (ho:ops[k]?=some o:=by rfl) (hg:o.guard=none:=by rfl):∀j p,(o::l)[j]?=some p->eC P ops Q md S V a0 W0 (k+j) p:=aD (tX ho hg h) hl
def pL {P ops Q md} {l:World->World->Prop} {m s q p d} {z:List Oper} {c C} (o r) (x:∀w,l q w->w.cell? c=some C) (M:∀j c,z[j]?=some c->eC P ops Q md l m s q (p+1+j) c) (N:ops[p]?=some d:=by rfl) (K:d.guard=none:=by rfl) (I:d.after.toList.any (λe=>Region.binds md e&&e.on==o)=true:=by kernel_rfl) (J:((ops[o]?).bind (·.dst))=some r:=by rfl) (E:∀(a:Operand->Value) (w:World),(∀k,a (.const k)=k)->(∀u,a (.func u)=.func (.func u) #[] #[])->m o (a (.tmp r)) w->w.cell? c=some C->∀(f:Act) (i:Act->World->Prop),f.eval=a->(∀k w',l w w'->m p k w'->i (f.put d.dst k) w')->Oper.upon P d f i Q ((execOp a d).run P w):=by (intro a w x y D R f i v b;have e:_=_:=D;go_simp;first|exact kq b rfl|exact b _ _ (VisK.refl _ _) rfl|exact b _ _ (kg _ _) rfl|exact b _ _ (aI (VisK.refl _ _)) rfl|exact b _ _ (py_low (by decide) (by decide) (kg _ _)) rfl|exact b _ _ (tr_low (by decide) (by decide) (by decide) (kg _ _)) rfl)):∀j c,(d::z)[j]?=some c->eC P ops Q md l m s q (p+j) c:=aD (tX N K λa w H L y S O f i v b=>E a w L y (O o r I J) (x w H) f i v b) M
def sK {P ops Q md} {S:World->World->Prop} {V a0 W0 k g o} (d b) (hr:∀w,S w w) (ho:ops[k]?=some o:=by rfl) (hg:o.guard=some (g,!b):=by rfl) (hd:((ops[g]?).bind (·.dst))=some d:=by rfl) (ha:o.after.toList.any (λe=>Region.binds md e&&e.on==g)=true:=by kernel_rfl) (hv:∀v w,S W0 w->V g v w->v=.bool b:=by exact λ_ _ _ h=>h) (h:∀w,V k undef w:=by exact λ_=>rfl):eC P ops Q md S V a0 W0 k o:=dV ho hg hd ha hv hr h
def sG {P ops Q md} {S:World->World->Prop} {V a0 W0 k g o} {l:List Oper} (d b) (h:∀ev:Operand->Value,∀w,S W0 w->(∀v,ev (.const v)=v)->(∀f,ev (.func f)=.func (.func f) #[] #[])->(∀t,uJ md ops k t=true->ev (.tmp t)=a0.eval (.tmp t))->(∀i d,o.after.toList.any (λe=>Region.binds md e&&e.on==i)=true->((ops[i]?).bind (·.dst))=some d->V i (ev (.tmp d)) w)->∀a K,a.eval=ev->(∀v w',S w w'->V k v w'->K (a.put o.dst v) w')->Oper.upon P o a K Q ((execOp ev o).run P w)) (hl:∀j p,l[j]?=some p->eC P ops Q md S V a0 W0 (k+1+j) p) (ho:ops[k]?=some o:=by rfl) (hg:o.guard=some (g,b):=by rfl) (hd:((ops[g]?).bind (·.dst))=some d:=by rfl) (ha:o.after.toList.any (λe=>Region.binds md e&&e.on==g)=true:=by kernel_rfl) (hv:∀v w,S W0 w->V g v w->v=.bool b:=by exact λ_ _ _ h=>h):∀j p,(o::l)[j]?=some p->eC P ops Q md S V a0 W0 (k+j) p:=aD (nU ho hg hd ha hv h) hl
def gW {P ops Q md} {m:World->World->Prop} {i x q p g c} {H:List Oper} (W y o s a r) (T:∀a l,H[a]?=some l->eC P ops Q md m i x q (p+1+a) l) (U:ops[p]?=some c:=by rfl) (S:c.guard=some (g,y):=by rfl) (O:((ops[g]?).bind (·.dst))=some W:=by rfl) (K:c.after.toList.any (λe=>Region.binds md e&&e.on==g)=true:=by kernel_rfl) (V:∀f w,m q w->i g f w->f=.bool y:=by exact λ_ _ _ v=>v) (L:c.after.toList.any (λe=>Region.binds md e&&e.on==o)=true:=by kernel_rfl) (N:((ops[o]?).bind (·.dst))=some s:=by rfl) (M:c.after.toList.any (λe=>Region.binds md e&&e.on==a)=true:=by kernel_rfl) (R:((ops[a]?).bind (·.dst))=some r:=by rfl) (v:∀(b:Operand->Value) (w:World),(∀f,b (.const f)=f)->(∀u,b (.func u)=.func (.func u) #[] #[])->i o (b (.tmp s)) w->i a (b (.tmp r)) w->∀(j:Act) (k:Act->World->Prop),j.eval=b->(∀f w',m w w'->i p f w'->k (j.put c.dst f) w')->Oper.upon P c j k Q ((execOp b c).run P w):=by (intro b w C D I J j k z d;have e:_=_:=I;have u:_=_:=J;go_simp;first|exact kq d rfl|exact d _ _ (VisK.refl _ _) rfl|exact d _ _ (kg _ _) rfl|exact d _ _ (aI (VisK.refl _ _)) rfl|exact d _ _ (py_low (by decide) (by decide) (kg _ _)) rfl|exact d _ _ (tr_low (by decide) (by decide) (by decide) (kg _ _)) rfl)):∀a l,(c::H)[a]?=some l->eC P ops Q md m i x q (p+a) l:=aD (nU U S O K V λb w _ C D X E j k z d=>v b w C D (E o s L N) (E a r M R) j k z d) T
def pW {P ops Q md} {S:World->World->Prop} {V a0 W0 k o} {l:List Oper} (i d j c) (hl:∀j p,l[j]?=some p->eC P ops Q md S V a0 W0 (k+1+j) p) (ho:ops[k]?=some o:=by rfl) (hg:o.guard=none:=by rfl) (hb:o.after.toList.any (λe=>Region.binds md e&&e.on==i)=true:=by kernel_rfl) (hd:((ops[i]?).bind (·.dst))=some d:=by rfl) (hb2:o.after.toList.any (λe=>Region.binds md e&&e.on==j)=true:=by kernel_rfl) (hd2:((ops[j]?).bind (·.dst))=some c:=by rfl) (h:∀(ev:Operand->Value) (w:World),(∀v,ev (.const v)=v)->(∀f,ev (.func f)=.func (.func f) #[] #[])->V i (ev (.tmp d)) w->V j (ev (.tmp c)) w->∀(a:Act) (K:Act->World->Prop),a.eval=ev->(∀v w',S w w'->V k v w'->K (a.put o.dst v) w')->Oper.upon P o a K Q ((execOp ev o).run P w):=by (intro ev w hc hf e0 f0 a K ha hK;have e:_=_:=e0;have f:_=_:=f0;go_simp;first|exact kq hK rfl|exact hK _ _ (VisK.refl _ _) rfl|exact hK _ _ (kg _ _) rfl|exact hK _ _ (aI (VisK.refl _ _)) rfl|exact hK _ _ (py_low (by decide) (by decide) (kg _ _)) rfl|exact hK _ _ (tr_low (by decide) (by decide) (by decide) (kg _ _)) rfl)):∀j p,(o::l)[j]?=some p->eC P ops Q md S V a0 W0 (k+j) p:=aD (tX ho hg λev w _ hc hf hold hval a K ha hK=>h ev w hc hf (hval i d hb hd) (hval j c hb2 hd2) a K ha hK) hl
def gV {P ops Q md} {m:World->World->Prop} {j u q p g c} {D:List Oper} (S v o r) (M:∀k l,D[k]?=some l->eC P ops Q md m j u q (p+1+k) l) (N:ops[p]?=some c:=by rfl) (L:c.guard=some (g,v):=by rfl) (K:((ops[g]?).bind (·.dst))=some S:=by rfl) (H:c.after.toList.any (λe=>Region.binds md e&&e.on==g)=true:=by kernel_rfl) (O:∀d w,m q w->j g d w->d=.bool v:=by exact λ_ _ _ s=>s) (I:c.after.toList.any (λe=>Region.binds md e&&e.on==o)=true:=by kernel_rfl) (J:((ops[o]?).bind (·.dst))=some r:=by rfl) (s:∀(a:Operand->Value) (w:World),(∀d,a (.const d)=d)->(∀x,a (.func x)=.func (.func x) #[] #[])->j o (a (.tmp r)) w->∀(f:Act) (i:Act->World->Prop),f.eval=a->(∀d w',m w w'->j p d w'->i (f.put c.dst d) w')->Oper.upon P c f i Q ((execOp a c).run P w):=by (intro a w z C E f i y b;have e:_=_:=E;go_simp;first|exact kq b rfl|exact b _ _ (VisK.refl _ _) rfl|exact b _ _ (kg _ _) rfl|exact b _ _ (aI (VisK.refl _ _)) rfl|exact b _ _ (py_low (by decide) (by decide) (kg _ _)) rfl|exact b _ _ (tr_low (by decide) (by decide) (by decide) (kg _ _)) rfl)):∀k l,(c::D)[k]?=some l->eC P ops Q md m j u q (p+k) l:=aD (nU N L K H O λa w _ z C T R f i y b=>s a w z C (R o r I J) f i y b) M
def pV {P ops Q md} {S:World->World->Prop} {V a0 W0 k o} {l:List Oper} (i d) (hl:∀j p,l[j]?=some p->eC P ops Q md S V a0 W0 (k+1+j) p) (ho:ops[k]?=some o:=by rfl) (hg:o.guard=none:=by rfl) (hb:o.after.toList.any (λe=>Region.binds md e&&e.on==i)=true:=by kernel_rfl) (hd:((ops[i]?).bind (·.dst))=some d:=by rfl) (h:∀(ev:Operand->Value) (w:World),(∀v,ev (.const v)=v)->(∀f,ev (.func f)=.func (.func f) #[] #[])->V i (ev (.tmp d)) w->∀(a:Act) (K:Act->World->Prop),a.eval=ev->(∀v w',S w w'->V k v w'->K (a.put o.dst v) w')->Oper.upon P o a K Q ((execOp ev o).run P w):=by (intro ev w hc hf e0 a K ha hK;have e:_=_:=e0;go_simp;first|exact kq hK rfl|exact hK _ _ (VisK.refl _ _) rfl|exact hK _ _ (kg _ _) rfl|exact hK _ _ (aI (VisK.refl _ _)) rfl|exact hK _ _ (py_low (by decide) (by decide) (kg _ _)) rfl|exact hK _ _ (tr_low (by decide) (by decide) (by decide) (kg _ _)) rfl)):∀j p,(o::l)[j]?=some p->eC P ops Q md S V a0 W0 (k+j) p:=aD (tX ho hg λev w _ hc hf hold hval a K ha hK=>h ev w hc hf (hval i d hb hd) a K ha hK) hl
def gH {P ops Q md} {m:World->World->Prop} {o q p k g d} {z:List Oper} (O s t C) (J:∀j l,z[j]?=some l->eC P ops Q md m o q p (k+1+j) l) (K:ops[k]?=some d:=by rfl) (I:d.guard=some (g,s):=by rfl) (H:((ops[g]?).bind (·.dst))=some O:=by rfl) (D:d.after.toList.any (λe=>Region.binds md e&&e.on==g)=true:=by kernel_rfl) (M:∀c w,m p w->o g c w->c=.bool s:=by exact λ_ _ _ r=>r) (E:uJ md ops k t=true:=by kernel_rfl) (N:q.eval (.tmp t)=C:=by rfl) (r:∀(a:Operand->Value) (w:World),(∀c,a (.const c)=c)->(∀u,a (.func u)=.func (.func u) #[] #[])->a (.tmp t)=C->∀(f:Act) (i:Act->World->Prop),f.eval=a->(∀c w',m w w'->o k c w'->i (f.put d.dst c) w')->Oper.upon P d f i Q ((execOp a d).run P w):=by (intro a w x y e f i v b;go_simp;first|exact kq b rfl|exact b _ _ (VisK.refl _ _) rfl|exact b _ _ (kg _ _) rfl|exact b _ _ (aI (VisK.refl _ _)) rfl|exact b _ _ (py_low (by decide) (by decide) (kg _ _)) rfl|exact b _ _ (tr_low (by decide) (by decide) (by decide) (kg _ _)) rfl)):∀j l,(d::z)[j]?=some l->eC P ops Q md m o q p (k+j) l:=aD (nU K I H D M λa w _ x y L R f i v b=>r a w x y ((L t E).trans N) f i v b) J
def pH {P ops Q md} {S:World->World->Prop} {V a0 W0 k o} {l:List Oper} (t x) (hl:∀j p,l[j]?=some p->eC P ops Q md S V a0 W0 (k+1+j) p) (ho:ops[k]?=some o:=by rfl) (hg:o.guard=none:=by rfl) (hb:uJ md ops k t=true:=by kernel_rfl) (hx:a0.eval (.tmp t)=x:=by rfl) (h:∀(ev:Operand->Value) (w:World),(∀v,ev (.const v)=v)->(∀f,ev (.func f)=.func (.func f) #[] #[])->ev (.tmp t)=x->∀(a:Act) (K:Act->World->Prop),a.eval=ev->(∀v w',S w w'->V k v w'->K (a.put o.dst v) w')->Oper.upon P o a K Q ((execOp ev o).run P w):=by (intro ev w hc hf e a K ha hK;go_simp;first|exact kq hK rfl|exact hK _ _ (VisK.refl _ _) rfl|exact hK _ _ (kg _ _) rfl|exact hK _ _ (aI (VisK.refl _ _)) rfl|exact hK _ _ (py_low (by decide) (by decide) (kg _ _)) rfl|exact hK _ _ (tr_low (by decide) (by decide) (by decide) (kg _ _)) rfl)):∀j p,(o::l)[j]?=some p->eC P ops Q md S V a0 W0 (k+j) p:=aD (tX ho hg λev w _ hc hf hold hval a K ha hK=>h ev w hc hf ((hold t hb).trans hx) a K ha hK) hl
def aL {c:Nat->Oper->Prop} {d:List Oper} (f:∀a b,d[a]?=some b->c (0+a) b):∀a b,d.toArray[a]?=some b->c a b:=by
 intro a b i;have:=f a b (by simpa using i);rwa [zBi] at this
def is (a:Value):Value->World->Prop:=λb _=>b=a
def row (sz n:Nat) (xs:List Value):Value->World->Prop:=λb w=>∃A a,b=.slice A n a/\Rd w w.heap.size sz A n xs/\n<=a/\a<=maxLen
def Grow (w w':World):Prop:=Below w.heap.size w w'
def Grow.trans {w w1 b} (a:Grow w w1) (c:Grow w1 b):Grow w b:=Below.trans a (zDV c (Below.size a))
def Stb (a:Value->World->Prop):Prop:=∀b w w',a b w->Grow w w'->a b w'
def aGg (a):Stb (is a):=λ_ _ _ b _=>b
def aMA (sz n xs):Stb (row sz n xs):=λ_ _ _ ⟨A,b,c,d,f⟩ a=>⟨A,b,c,(d.below a).mono (Below.size a),f⟩
def Vs (b:List (Value->World->Prop)) (a:Nat):Value->World->Prop:=b.getD a λ_ _=>True
def eY {b} (j:∀c∈b,Stb c):∀a d w w',Vs b a d w->Grow w w'->Vs b a d w':=by
 intro a d w w' f k;unfold Vs at*
 rw [zAb] at*
 cases i:b[a]? with
 | none=>exact trivial
 | some c=>rw [i] at f;exact j c (zAd i) _ _ _ f k
end
def dJ (d:Operand->Value) (c:List Nat) (b:Act):Act:=c.foldl (λf a=>f.put (some a) (d (.tmp a))) b
def zqq:(∀(i:Operand->Value) (d:Nat) (l:List Nat) (f:Act),dJ i (d::l) f=dJ i l (f.put (some d) (i (.tmp d))))/\(∀(i:Operand->Value) (f:Act),dJ i [] f=f)/\(∀t k d m,Act.put ⟨t,k⟩ (some d) m=⟨t.setIfInBounds d m,k⟩)/\(∀(a:List Value) j c,a.toArray.setIfInBounds j c=(a.set j c).toArray)/\(∀(a:List Value) c b,(c::a).set 0 b=b::a)/\∀(a:List Value) c b n,(c::a).set (n+1) b=c::a.set n b:=⟨λ_ _ _ _=>rfl,λ_ _=>rfl,λ_ _ _ _=>rfl,λa j c=>zFu a j c,λ_ _ _=>rfl,λ_ _ _ _=>rfl⟩
def aMM (b:Act) (d:List Nat) (a:Act) (o:b.tmps.size=a.tmps.size):
 (dJ b.eval d a).tmps.size=a.tmps.size/\(dJ b.eval d a).defers=a.defers/\
 ∀t,(dJ b.eval d a).tmps.getD t undef=if t∈d then b.tmps.getD t undef else a.tmps.getD t undef:=by
 induction d generalizing a with
 | nil=>exact ⟨rfl,rfl,λt=>by simp [dJ]⟩
 | cons c d s=>
  have i:(a.put (some c) (b.eval (.tmp c))).tmps.size=a.tmps.size:=(by simp [Act.put]);obtain ⟨p,q,r⟩:=s (a.put (some c) (b.eval (.tmp c))) (by rw [i];exact o);refine ⟨p.trans i,q,λt=>?_⟩;have l:=r t;change (dJ b.eval d (a.put (some c) (b.eval (.tmp c)))).tmps.getD t undef=_;rw [l];by_cases ht:t∈d
  .rw [zBx ht,zBx (zEv _ ht)]
  .rw [zBw ht];by_cases f:t=c
   .subst f;rw [zBx (zEL ..)];by_cases j:t < a.tmps.size
    .simp [Act.put,zAm,j,Act.eval]
    .have m:¬t < b.tmps.size:=oM;simp [Act.put,zAm,j,m]
   .rw [zBw (by simp [f,ht])];have:c≠t:=λk=>f k.symm;simp [Act.put,zAm,this]
def aL9 {a b} (c) (p:a.tmps.size=b.tmps.size) (j:a.defers=b.defers) (r:∀t,t∉c->a.tmps.getD t undef=b.tmps.getD t undef):a=dJ a.eval c b:=by
 obtain ⟨v,l,x⟩:=aMM a c b p;have m:a.tmps=(dJ a.eval c b).tmps:=by
  apply zGk
  .rw [v,p]
  .intro d s u;have:=x d;have q:(dJ a.eval c b).tmps.getD d undef=(dJ a.eval c b).tmps[d]:=(by simp [zAm,u]);have o:a.tmps.getD d undef=a.tmps[d]:=(by simp [zAm,s]);rw [q] at this;rw [this];by_cases k:d∈c
   .rw [zBx k,o]
   .rw [zBw k,<-r d k,o]
 cases f:a with
 | mk t y=>
  cases i:dJ a.eval c b with
  | mk C z=>
   rw [f] at i;rw [i];rw [f,i] at m;rw [f,i] at l;rw [f] at j;simp only at m l j;rw [m,j,l]
section
variable {P : Program} {ops : Array Oper} {Q : Exit -> Act -> World -> Prop} {md : Region.Mode}
def aDt (md:Region.Mode) (ops:Array Oper) (a b:Nat):Bool:=match ops[a]? with
 | some c=>c.after.toList.any (λe=>Region.binds md e&&e.on==b)
 | none=>false
def dN (P:Program) (ops:Array Oper) (Q:Exit->Act->World->Prop) (md:Region.Mode) (m:World->Prop) (o:Nat->World->World->Prop) (p:Nat->World->Prop) (f:Nat->Value->World->Prop) (c:Act) (b:Nat) (j:Oper):Prop:=
 ∀a w,m w->p b w->a.tmps.size=c.tmps.size->a.defers=c.defers->
  (∀t,uJ md ops b t=true->a.tmps.getD t undef=c.tmps.getD t undef)->
  (∀e∈j.after,Region.binds md e=true->∀k i,ops[e.on]?=some k->k.dst=some i->f e.on (a.tmps.getD i undef) w)->
  ∀d:Act->World->Prop,(∀l w',o b w w'->f b l w'->d (a.put j.dst l) w')->wpOp P ops Q b d a w
def pI {p} {q:Nat->World->World->Prop} {r:Nat->World->Prop} {m s d a} (J:ops[d]?=some a) (H:a.guard=none) (x:∀c:Operand->Value,∀w,p w->r d w->(∀f,c (.const f)=f)->(∀u,c (.func u)=.func (.func u) #[] #[])->(∀t,uJ md ops d t=true->c (.tmp t)=s.eval (.tmp t))->
 (∀l j,a.after.toList.any (λe=>Region.binds md e&&e.on==l)=true->((ops[l]?).bind (·.dst))=some j->m l (c (.tmp j)) w)->
 ∀b i,b.eval=c->(∀f w',q d w w'->m d f w'->i (b.put a.dst f) w')->Oper.upon P a b i Q ((execOp c a).run P w)):dN P ops Q md p q r m s d a:=by
 intro b w C D R O K L i z;unfold wpOp;simp only [J];have M:Region.wanted a (yielded ops b.tmps)=true:=by unfold Region.wanted;rw [H]
 rw [zBx M];refine .inl (x b.eval w C D (λ_=>rfl) (λ_=>rfl) (λt ht=>K t ht) (λl j I k=>?_) b i rfl z);obtain ⟨e,E,v⟩:=zEl.1 I;simp only [zBd,zCr] at v;obtain ⟨y,rfl⟩:=v;cases o:ops[e.on]? with
 | none=>rw [o] at k;cases k
 | some N=>rw [o] at k;exact L e (zDv.1 E) y N j o k
def sC3 {P ops Q md C} {S:Nat->World->World->Prop} {U:Nat->World->Prop} {V a0 k o} {l:List Oper} (h:∀ev:Operand->Value,∀w,C w->U k w->(∀v,ev (.const v)=v)->(∀f,ev (.func f)=.func (.func f) #[] #[])->(∀t,uJ md ops k t=true->ev (.tmp t)=a0.eval (.tmp t))->(∀i d,o.after.toList.any (λe=>Region.binds md e&&e.on==i)=true->((ops[i]?).bind (·.dst))=some d->V i (ev (.tmp d)) w)->∀a K,a.eval=ev->(∀v w',S k w w'->V k v w'->K (a.put o.dst v) w')->Oper.upon P o a K Q ((execOp ev o).run P w)) (hl:∀j p,l[j]?=some p->dN P ops Q md C S U V a0 (k+1+j) p) (ho:ops[k]?=some o:=by rfl) (hg:o.guard=none:=by rfl):∀j p,(o::l)[j]?=some p->dN P ops Q md C S U V a0 (k+j) p:=aD (pI ho hg h) hl
def pL3 {P ops Q md p} {q:Nat->World->World->Prop} {s:Nat->World->Prop} {m u k d} {C:List Oper} {c D} (o r) (y:∀w,p w->w.cell? c=some D) (N:∀j c,C[j]?=some c->dN P ops Q md p q s m u (k+1+j) c) (O:ops[k]?=some d:=by rfl) (L:d.guard=none:=by rfl) (J:d.after.toList.any (λe=>Region.binds md e&&e.on==o)=true:=by kernel_rfl) (K:((ops[o]?).bind (·.dst))=some r:=by rfl) (H:∀(a:Operand->Value) (w:World),(∀l,a (.const l)=l)->(∀v,a (.func v)=.func (.func v) #[] #[])->m o (a (.tmp r)) w->w.cell? c=some D->∀(f:Act) (i:Act->World->Prop),f.eval=a->(∀l w',q k w w'->m k l w'->i (f.put d.dst l) w')->Oper.upon P d f i Q ((execOp a d).run P w):=by (intro a w y z E S f i x b;have e:_=_:=E;go_simp;first|exact kq b rfl|exact b _ _ (VisK.refl _ _) rfl|exact b _ _ (kg _ _) rfl|exact b _ _ (aI (VisK.refl _ _)) rfl|exact b _ _ (py_low (by decide) (by decide) (kg _ _)) rfl|exact b _ _ (tr_low (by decide) (by decide) (by decide) (kg _ _)) rfl)):∀j c,(d::C)[j]?=some c->dN P ops Q md p q s m u (k+j) c:=aD (pI O L λa w I _ M z T R f i x b=>H a w M z (R o r J K) (y w I) f i x b) N
def pW3 {P ops Q md C} {S:Nat->World->World->Prop} {U:Nat->World->Prop} {V a0 k o} {l:List Oper} (i d j c) (hl:∀j p,l[j]?=some p->dN P ops Q md C S U V a0 (k+1+j) p) (ho:ops[k]?=some o:=by rfl) (hg:o.guard=none:=by rfl) (hb:o.after.toList.any (λe=>Region.binds md e&&e.on==i)=true:=by kernel_rfl) (hd:((ops[i]?).bind (·.dst))=some d:=by rfl) (hb2:o.after.toList.any (λe=>Region.binds md e&&e.on==j)=true:=by kernel_rfl) (hd2:((ops[j]?).bind (·.dst))=some c:=by rfl) (h:∀(ev:Operand->Value) (w:World),(∀v,ev (.const v)=v)->(∀f,ev (.func f)=.func (.func f) #[] #[])->V i (ev (.tmp d)) w->V j (ev (.tmp c)) w->∀(a:Act) (K:Act->World->Prop),a.eval=ev->(∀v w',S k w w'->V k v w'->K (a.put o.dst v) w')->Oper.upon P o a K Q ((execOp ev o).run P w):=by (intro ev w hc hf e0 f0 a K ha hK;have e:_=_:=e0;have f:_=_:=f0;go_simp;first|exact kq hK rfl|exact hK _ _ (VisK.refl _ _) rfl|exact hK _ _ (kg _ _) rfl|exact hK _ _ (aI (VisK.refl _ _)) rfl|exact hK _ _ (py_low (by decide) (by decide) (kg _ _)) rfl|exact hK _ _ (tr_low (by decide) (by decide) (by decide) (kg _ _)) rfl)):∀j p,(o::l)[j]?=some p->dN P ops Q md C S U V a0 (k+j) p:=aD (pI ho hg λev w _ _ hc hf hold hval a K ha hK=>h ev w hc hf (hval i d hb hd) (hval j c hb2 hd2) a K ha hK) hl
def pV3 {P ops Q md C} {S:Nat->World->World->Prop} {U:Nat->World->Prop} {V a0 k o} {l:List Oper} (i d) (hl:∀j p,l[j]?=some p->dN P ops Q md C S U V a0 (k+1+j) p) (ho:ops[k]?=some o:=by rfl) (hg:o.guard=none:=by rfl) (hb:o.after.toList.any (λe=>Region.binds md e&&e.on==i)=true:=by kernel_rfl) (hd:((ops[i]?).bind (·.dst))=some d:=by rfl) (h:∀(ev:Operand->Value) (w:World),(∀v,ev (.const v)=v)->(∀f,ev (.func f)=.func (.func f) #[] #[])->V i (ev (.tmp d)) w->∀(a:Act) (K:Act->World->Prop),a.eval=ev->(∀v w',S k w w'->V k v w'->K (a.put o.dst v) w')->Oper.upon P o a K Q ((execOp ev o).run P w):=by (intro ev w hc hf e0 a K ha hK;have e:_=_:=e0;go_simp;first|exact kq hK rfl|exact hK _ _ (VisK.refl _ _) rfl|exact hK _ _ (kg _ _) rfl|exact hK _ _ (aI (VisK.refl _ _)) rfl|exact hK _ _ (py_low (by decide) (by decide) (kg _ _)) rfl|exact hK _ _ (tr_low (by decide) (by decide) (by decide) (kg _ _)) rfl)):∀j p,(o::l)[j]?=some p->dN P ops Q md C S U V a0 (k+j) p:=aD (pI ho hg λev w _ _ hc hf hold hval a K ha hK=>h ev w hc hf (hval i d hb hd) a K ha hK) hl
def pH3 {P ops Q md C} {S:Nat->World->World->Prop} {U:Nat->World->Prop} {V a0 k o} {l:List Oper} (t x) (hl:∀j p,l[j]?=some p->dN P ops Q md C S U V a0 (k+1+j) p) (ho:ops[k]?=some o:=by rfl) (hg:o.guard=none:=by rfl) (hb:uJ md ops k t=true:=by kernel_rfl) (hx:a0.eval (.tmp t)=x:=by rfl) (h:∀(ev:Operand->Value) (w:World),(∀v,ev (.const v)=v)->(∀f,ev (.func f)=.func (.func f) #[] #[])->ev (.tmp t)=x->∀(a:Act) (K:Act->World->Prop),a.eval=ev->(∀v w',S k w w'->V k v w'->K (a.put o.dst v) w')->Oper.upon P o a K Q ((execOp ev o).run P w):=by (intro ev w hc hf e a K ha hK;go_simp;first|exact kq hK rfl|exact hK _ _ (VisK.refl _ _) rfl|exact hK _ _ (kg _ _) rfl|exact hK _ _ (aI (VisK.refl _ _)) rfl|exact hK _ _ (py_low (by decide) (by decide) (kg _ _)) rfl|exact hK _ _ (tr_low (by decide) (by decide) (by decide) (kg _ _)) rfl)):∀j p,(o::l)[j]?=some p->dN P ops Q md C S U V a0 (k+j) p:=aD (pI ho hg λev w _ _ hc hf hold hval a K ha hK=>h ev w hc hf ((hold t hb).trans hx) a K ha hK) hl
end
section
variable {P : Program} {ops : Array Oper} {Q : Exit -> Act -> World -> Prop} {md : Region.Mode}
def upB (md:Region.Mode) (ops:Array Oper):Nat->Nat->Nat->Bool
 | 0,_,_=>false
 | f+1,j,i=>match ops[j]? with
  | some a=>a.after.toList.any λe=>Region.binds md e&&(e.on==i||upB md ops f e.on i)
  | none=>false
def sY {j:Array Bool} (hs:∀p f,ops[p]?=some f->j.getD p false=true->∀e∈f.after,Region.binds md e=true->j.getD e.on false=true):
 ∀b i d k,ops[i]?=some k->(∀e∈k.after,Region.binds md e=true->j.getD e.on false=true)->upB md ops b i d=true->j.getD d false=true:=by
 intro b
 induction b with
 | zero=>intro i d k _ _ c;cases c
 | succ b u=>
  intro i d k s q c;unfold upB at c;rw [s] at c;obtain ⟨e,r,l⟩:=zEl.1 c;simp only [zBd,zEX,zCr] at l;have o:=q e (zDv.1 r) l.1;rcases l.2 with a | a;rw [<-a];exact o
  .cases m:ops[e.on]? with
   | none=>
    exfalso;cases b with
    | zero=>cases a
    | succ b=>unfold upB at a;rw [m] at a;cases a
   | some f=>exact u e.on d f m (hs e.on f m o) a
def bT (n b:Nat):Array Bool:=((List.range b).map λa=>decide (a < n)).toArray
def aDe (n a) (k:n<=a):(bT n a).toList.count false=a - n:=by
 unfold bT;rw [List.toList_toArray]
 induction a with
 | zero=>simp
 | succ a j=>
  rw [zDx,zAz,zCc];rcases zBe a n with b | b
  .have:n=a+1:=oM;subst this;have e:(List.map (λi=>decide (i < a+1)) (List.range a)).count false=0:=(by rw [List.count_eq_zero];intro d;obtain ⟨l,f,c⟩:=zAy.1 d;have:=zCj.1 f;simp at c;omega);rw [e];simp
  rw [j b];have:¬(a < n):=oM;simp [this];omega
def bG {a i b w} (f:Region.ready md ops i= []) (d:Q .normal b w):wpAny P md ops Q a i b w:=by
 cases a with
 | zero=>exact ⟨f,d⟩
 | succ a=>exact ⟨λ_=>d,λj c=>by rw [f] at c;cases c⟩
def aY {f a b w i} (j:Region.ready md ops a= [i]) (k:wpOp P ops Q i (wpAny P md ops Q f (a.setIfInBounds i true)) b w):wpAny P md ops Q (f+1) a b w:=
 ⟨λc=>(by rw [j] at c;cases c),λl d=>(by rw [j] at d;cases zDa.1 d;exact k)⟩
def zM (P:Program) (ops:Array Oper) (Q:Exit->Act->World->Prop) (md:Region.Mode) (m:(Operand->Value)->World->Prop) (o:Nat->Value->World->World->Prop) (p:Nat->World->Prop) (i:Nat->(Operand->Value)->Value->World->Prop) (c:Act) (b:Nat) (k:Oper):Prop:=
 ∀a w,m a.eval w->p b w->a.tmps.size=c.tmps.size->a.defers=c.defers->
  (∀t,uJ md ops b t=true->a.tmps.getD t undef=c.tmps.getD t undef)->
  (∀e∈k.after,Region.binds md e=true->∀l j,ops[e.on]?=some l->l.dst=some j->i e.on a.eval (a.tmps.getD j undef) w)->
  ∀f:Act->World->Prop,(∀d w',o b d w w'->i b a.eval d w'->f (a.put k.dst d) w')->wpOp P ops Q b f a w
def cY {p:(Operand->Value)->World->Prop} {q:Nat->Value->World->World->Prop} {r:Nat->World->Prop} {m:Nat->(Operand->Value)->Value->World->Prop} {s d b} (J:ops[d]?=some b) (H:b.guard=none) (x:∀a:Operand->Value,∀w,p a w->r d w->(∀f,a (.const f)=f)->(∀u,a (.func u)=.func (.func u) #[] #[])->(∀t,uJ md ops d t=true->a (.tmp t)=s.eval (.tmp t))->
 (∀l j,b.after.toList.any (λe=>Region.binds md e&&e.on==l)=true->((ops[l]?).bind (·.dst))=some j->m l a (a (.tmp j)) w)->
 ∀c i,c.eval=a->(∀f w',q d f w w'->m d a f w'->i (c.put b.dst f) w')->Oper.upon P b c i Q ((execOp a b).run P w)):zM P ops Q md p q r m s d b:=by
 intro c w C D R O K L i z;unfold wpOp;simp only [J];have M:Region.wanted b (yielded ops c.tmps)=true:=by unfold Region.wanted;rw [H]
 rw [zBx M];refine .inl (x c.eval w C D (λ_=>rfl) (λ_=>rfl) (λt ht=>K t ht) (λl j I k=>?_) c i rfl z);obtain ⟨e,E,v⟩:=zEl.1 I;simp only [zBd,zCr] at v;obtain ⟨y,rfl⟩:=v;cases o:ops[e.on]? with
 | none=>rw [o] at k;cases k
 | some N=>rw [o] at k;exact L e (zDv.1 E) y N j o k
def aNV {o} (l:kL md ops o=true):∀c b d,upB md ops c b d=true->d < b:=by
 intro c
 induction c with
 | zero=>intro b d a;cases a
 | succ c m=>
  intro b d a;unfold upB at a;cases i:ops[b]? with
  | none=>rw [i] at a;cases a
  | some q=>
   rw [i] at a;obtain ⟨e,k,f⟩:=zEl.1 a;simp only [zBd,zEX,zCr] at f;have p:=(pZ l i).1 e (zDv.1 k) f.1;rcases f.2 with j | j;omega;have:=m _ _ j;omega
def aF3 {i} (d:kL md ops i=true) {c a b} (j:b<=a) (f:upB md ops c b a=true):False:=by
 have:=aNV d c b a f;omega
structure LooseF (md:Region.Mode) (ops:Array Oper) (C:(Operand->Value)->World->Prop) (U:Nat->World->Prop) (V:Nat->(Operand->Value)->Value->World->Prop) (a0:Act) (listed:Array Bool) (a:Act) (w:World):Prop where
 world:C a.eval w
 pre:∀j o,ops[j]?=some o->listed.getD j false=false->U j w
 size:a.tmps.size=a0.tmps.size
 defers:a.defers=a0.defers
 H:∀t,(∀k p,ops[k]?=some p->p.dst=some t->listed.getD k false=false)->a.tmps.getD t undef=a0.tmps.getD t undef
 val:∀i o,ops[i]?=some o->listed.getD i false=true->∃v,(∀d,o.dst=some d->a.tmps.getD d undef=v)/\V i a.eval v w
 shut:∀k p,ops[k]?=some p->listed.getD k false=true->∀e∈p.after,Region.binds md e=true->listed.getD e.on false=true
def aG4 {a:Array Bool} {b:Nat} (d:b < a.size) (f:a.toList.count false=0):a.getD b false=true:=by
 cases c:a.getD b false with
 | true=>rfl
 | false=>
  exfalso;have:false∈a.toList:=(by simp [d] at c;exact c ▸zs);have:=List.count_pos_iff.2 this;omega
def mP {n a8} {C:(Operand->Value)->World->Prop} {S:Nat->Value->World->World->Prop} {U:Nat->World->Prop} {V:Nat->(Operand->Value)->Value->World->Prop} {I a7} (au:(ops.toList.take n).filterMap (·.dst)=a8) (al:n<=ops.size) (a4:kL md ops I.tmps.size=true) (aG:∀l a,n<=l->l < ops.size->a < n->upB md ops ops.size l a=true) (an:C I.eval a7) (ap:∀a,U a a7) (am:∀b j v H k w w',b < n->ops[b]?=some j->(∀o,j.dst=some o->H (.tmp o)=k)->(∀t,j.dst≠some t->H (.tmp t)=v (.tmp t))->C v w->S b k w w'->C H w') (ao:∀a b v k w w',b < n->a≠b->upB md ops ops.size b a=false->U a w->C v w->S b k w w'->U a w') (aC:∀b j v H k w,ops[b]?=some j->(∀t,j.dst≠some t->H (.tmp t)=v (.tmp t))->V b v k w->V b H k w) (aD:∀a b j v H k af w w',b < n->a < ops.size->ops[b]?=some j->(∀t,j.dst≠some t->H (.tmp t)=v (.tmp t))->a≠b->upB md ops ops.size a b=false->V a v k w->C v w->S b af w w'->V a H k w') (aE:∀b j,b < n->ops[b]?=some j->zM P ops Q md C S U V I b j) (aw:∀(v:Operand->Value) w f,C v w->(∀a o,a < n->((ops[a]?).bind (·.dst))=some o->V a v (v (.tmp o)) w)->(∀a,a < n->∃k,V a v k w)->wpAny P md ops Q (ops.size - n+f) (bT n ops.size) (dJ v a8 I) w):
 wpAny P md ops Q ops.size (Array.replicate ops.size false) I a7:=by
 have ah:∀y d r w,d.size=ops.size->d.toList.count false<=y->LooseF md ops C U V I d r w->(∀l,n<=l->d.getD l false=false)->(∀a,a < n->d.getD a false=true)->wpAny P md ops Q y d r w:=by
  intro y d r w O z c T R;have D:d=bT n ops.size:=by
   apply zGk
   .simp [bT,O]
   intro a E W;rcases zBe a n with L | L;have K:=R a L;simp [E] at K;simp [bT,K];exact L;have K:=T a L;simp [E] at K;simp [bT,K];omega
  have aL:ops.size - n<=y:=by rw [D,aDe _ _ al] at z;exact z
  have K:=aw r.eval w (y -(ops.size - n)) c.world (λa o q p=>by
   cases s:ops[a]? with
   | none=>rw [s] at p;cases p
   | some j=>
    rw [s] at p;obtain ⟨k,E,W⟩:=c.val a j s (R a q);rw [show r.eval (.tmp o)=k from E o p];exact W) λa q=>by
   obtain ⟨k,_,W⟩:=c.val a _ (zAq (zAl q al)) (R a q);exact ⟨k,W⟩
  rw [<-aL9 a8 c.size c.defers λt ht=>c.H t λl x m p=>?_,<-D,show ops.size - n+(y -(ops.size - n))=y by omega] at K;exact K;refine T l ?_;rcases zBe l n with u | u;refine absurd ?_ ht;rw [<-au];refine List.mem_filterMap.2 ⟨x,zAd (i:=l) ?_,p⟩;rw [zBs,zBx u,zDz];exact m;exact u
 have aK:∀d:Array Bool,d.size=ops.size->Region.ready md ops d= []->∀a,a < ops.size->d.getD a false=true:=by
  intro d O ad a
  induction a using Nat.strongRecOn with
  | _ a ae=>
   intro q;cases z:d.getD a false with
   | true=>rfl
   | false=>
    exfalso;have a5:a∈Region.ready md ops d:=(by refine mem_ready.2 ⟨?_,ops[a],zAq q,λe D M=>?_⟩;have ay:a < d.size:=oM;simp [ay] at z⊢;exact z;have:=(pZ a4 (zAq q)).1 e D M;exact ae e.on this oM);rw [ad] at a5;cases a5
 have aJ:∀y d r w,d.size=ops.size->d.toList.count false<=y->LooseF md ops C U V I d r w->(∀l,n<=l->d.getD l false=false)->wpAny P md ops Q y d r w:=by
  intro y
  induction y with
  | zero=>exact λd r w O z c T=>ah 0 d r w O z c T λa q=>aG4 oM oM
  | succ y ae=>
   intro d r w O z c T;by_cases R:∀a,a < n->d.getD a false=true;exact ah _ d r w O z c T R;refine ⟨λad=>absurd (λa q=>aK d O ad a oM) R,λb az=>?_⟩;obtain ⟨ai,j,s,a1⟩:=mem_ready.1 az;have Z:b < ops.size:=(zAh.1 s).1;have N:b < d.size:=oM;have J:d.getD b false=false:=(by simp [N] at ai⊢;exact ai);have a3:b < n:=by rcases zBe b n with L | L;exact L;exact absurd (λa q=>sY c.shut _ b a j s a1 (aG b a L Z q)) R
   have ac:∀k t,j.dst≠some t->(r.put j.dst k).eval (.tmp t)=r.eval (.tmp t):=by
    intro k t ht;cases a0:j.dst with
    | none=>rfl
    | some o=>
     have X:o≠t:=λe=>ht (by rw [a0,e]);simp [Act.eval,Act.put,zAm,X]
   have av:∀k o,j.dst=some o->(r.put j.dst k).eval (.tmp o)=k:=(by intro k o p;have aa:=((pZ a4 s).2 o p).1;have:o < r.tmps.size:=(by rw [c.size];exact aa);simp [Act.eval,Act.put,zAm,p,this]);refine aE b j a3 s r w c.world (c.pre b j s J) c.size c.defers (λt ht=>c.H t λl x m p=>?_) (λe D M x o m p=>by obtain ⟨k,E,W⟩:=c.val e.on x m (a1 e D M);rw [E o p];exact W) _ λk w' a9 aq=>?_
   .rcases aMU ht m p with rfl |⟨e,D,M,ax⟩;exact J
    .cases u:d.getD l false with
     | false=>rfl
     | true=>
      have:=c.shut l x m u e D M;rw [ax,J] at this;cases this
   .refine ae _ _ _ (by simpa using O) ?_ ?_ (λl u=>by rw [getD_set_ne false (by omega:b≠l)];exact T l u);have a6:d.toList[b]'(by simpa using N)=false:=(by simp [N] at J⊢;exact J);rw [zFv,List.count_set (by simpa using N),a6];simp;have a5:false∈d.toList:=a6 ▸ zBj _;have:=List.count_pos_iff.2 a5;rw [<-Array.count_toList];omega
    .have aF:(r.put j.dst k).tmps.size=I.tmps.size:=by
      rw [<-c.size];cases j.dst with
      | none=>rfl
      | some o=>simp [Act.put]
     refine ⟨am b j _ _ k w w' a3 s (av k) (ac k) c.world a9,λa x m q=>?_,aF,?_,λt ht=>?_,λa x m q=>?_,λl x m u e D M=>?_⟩
     .have aj:a≠b:=λe=>by rw [e,jP N] at q;cases q
      rw [getD_set_ne false aj.symm] at q;refine ao a b r.eval k w w' a3 aj ?_ (c.pre a x m q) c.world a9;cases aI:upB md ops ops.size b a with
      | false=>rfl
      | true=>
       have:=sY c.shut _ b a j s a1 aI;rw [q] at this;cases this
     .rw [<-c.defers];cases j.dst <;> rfl
     .have aA:j.dst≠some t:=λp=>by have:=ht b j s p;rw [jP N] at this;cases this
      have aB:=c.H t λl x m p=>by
       have:=ht l x m p;cases u:d.getD l false with
       | false=>rfl
       | true=>
        by_cases ak:b=l
        .subst ak;rw [J] at u;cases u
        .rw [getD_set_ne false ak,u] at this;cases this
      rw [<-aB];cases a0:j.dst with
      | none=>rfl
      | some o=>
       have X:o≠t:=λc=>aA (by rw [a0,c]);simp [Act.put,zAm,X]
     .rcases xY q with rfl | a2
      .rw [s] at m;injection m with m;subst m;refine ⟨k,λo p=>?_,aC _ _ _ _ _ _ s (ac k) aq⟩;have aa:=((pZ a4 s).2 o p).1;rw [p];have:o < r.tmps.size:=(by rw [c.size];exact aa);simp [Act.put,zAm,this]
      .by_cases ab:a=b
       .subst ab;rw [J] at a2;cases a2
       obtain ⟨af,aH,a6⟩:=c.val a x m a2
       have ar:upB md ops ops.size a b=false:=by
        cases z:upB md ops ops.size a b with
        | false=>rfl
        | true=>
         exfalso;have:=sY c.shut _ a b x m (c.shut a x m a2) z;rw [J] at this;cases this
       refine ⟨af,λo p=>?_,aD _ _ _ _ _ _ _ _ _ a3 (zAh.1 m).1 s (ac k) ab ar a6 c.world a9⟩;rw [<-aH o p];cases a0:j.dst with
       | none=>rfl
       | some ag=>
        have X:ag≠o:=λc=>ab (((pZ a4 s).2 ag a0).2 a x m (c ▸ p));simp [Act.put,zAm,X]
     rcases xY u with rfl | u;rw [s] at m;injection m with m;subst m;have E:=a1 e D M;by_cases Y:l=e.on;rw [<-Y];exact jP N _;rw [getD_set_ne false Y];exact E;have E:=c.shut l x m u e D M;by_cases Y:b=e.on;rw [<-Y];exact jP N _;rw [getD_set_ne false Y];exact E
 refine aJ _ _ _ _ zs zs ⟨an,λb _ _ _=>ap b,rfl,rfl,λ_ _=>rfl,λa j s q=>?_,λl x m u=>?_⟩ (λl u=>by
  rw [zAm];rcases zBe l ops.size with c | c
  .simp [c]
  .rw [zDn (by simpa using c)];rfl)
 .have Z:a < ops.size:=(zAh.1 s).1;simp [Z] at q
 .have Z:l < ops.size:=(zAh.1 m).1;simp [Z] at u
def qD {b n a w} (i:n=ops.size) (k:Q .normal a w):wpAny P md ops Q b (bT n ops.size) a w:=by
 refine bG ?_ k;rw [zFX];intro l d;obtain ⟨c,m,j,_⟩:=mem_ready.1 d;have f:l < ops.size:=(zAh.1 j).1;simp [bT,f,i] at c
def aHf {b f} (m:b < ops.size) (c:upB md ops ops.size b f=false):aDt md ops b f=false:=by
 cases a:aDt md ops b f with
 | false=>rfl
 | true=>
  exfalso;obtain ⟨j,l⟩:∃j,ops.size=j+1:=⟨ops.size - 1,by omega⟩;unfold aDt at a;rw [l] at c;unfold upB at c;cases i:ops[b]? with
  | none=>rw [i] at a;cases a
  | some o=>
   rw [i] at a c;obtain ⟨e,k,d⟩:=zEl.1 a;simp only [zBd,zCr] at d;have:=List.any_eq_false.1 c e k;simp [d.1,d.2] at this
def zR (ops:Array Oper):ops.toList.take ops.size=ops.toList:=zAg (by simp)
def aGX {a d} (b:((ops[a]?).bind (·.dst))=some d):a < ops.size:=by
 cases c:ops[a]? with
 | none=>rw [c] at b;cases b
 | some f=>exact (zAh.1 c).1
def aHI {n} (d:((List.range ops.size).all λa=>decide (a < n)||(List.range n).all λb=>upB md ops ops.size a b)=true):∀a b,n<=a->a < ops.size->b < n->upB md ops ops.size a b=true:=λa b f i j=>by
 have c:=zBf.1 d a (zCj.2 i);simp only [zCs.2 f,decide_false,zGm] at c;exact zBf.1 c b (zCj.2 j)
end
end
def aFc (a b:Nat) (e:a < 18446744073709551616) (f:b < 18446744073709551616):bits .and .u64 (a:Int) (b:Int)=((a&&& b:Nat):Int):=
 (bits_nat .u64 64 dC (λg c d=>by rw [kn];omega) a b oM oM).1
def aCN (a b d c:Nat) (j:a < 18446744073709551616) (i:d < 18446744073709551616) (g:2 ^ b=c):bits .and .u64 ((a:Int)/c) (d:Int)=((a >>> b&&& d:Nat):Int):=by
 have e:((a:Int)/c)=((a >>> b:Nat):Int):=by rw [zDu,g];push_cast;rfl
 have f:a >>> b < 18446744073709551616:=by rw [zDu];exact zDF (zDZ _ _) j
 rw [e,aFc _ _ f i]
def aBN {a:Nat} (v:a < 18446744073709551616) (E):
 Calls prog 249 #[.int .u64 a] E λI L=>I=.returned (.int .i64 (bQ a 64:Nat))/\E=L:=by
 obtain ⟨p,k⟩:∃c,c=a >>> 1&&& 6148914691236517205:=⟨_,rfl⟩;obtain ⟨q,l⟩:∃c,c=a&&& 6148914691236517205:=⟨_,rfl⟩;have b1:p<=6148914691236517205:=by rw [k];exact zFc
 have b2:q<=6148914691236517205:=by rw [l];exact zFc
 obtain ⟨d,y⟩:∃b,b=p+q:=⟨_,rfl⟩;obtain ⟨r,m⟩:∃c,c=d >>> 2&&& 3689348814741910323:=⟨_,rfl⟩;obtain ⟨s,n⟩:∃c,c=d&&& 3689348814741910323:=⟨_,rfl⟩;have F:r<=3689348814741910323:=by rw [m];exact zFc
 have G:s<=3689348814741910323:=by rw [n];exact zFc
 obtain ⟨e,z⟩:∃b,b=r+s:=⟨_,rfl⟩;obtain ⟨g,u⟩:∃K,K=e >>> 4+e:=⟨_,rfl⟩;have J:g=e / 16+e:=by rw [u,zDu]
 obtain ⟨f,o⟩:∃b,b=g&&& 1085102592571150095:=⟨_,rfl⟩;have H:f<=1085102592571150095:=by rw [o];exact zFc
 obtain ⟨i,A⟩:∃b,b=f+f / 256:=⟨_,rfl⟩;obtain ⟨j,B⟩:∃b,b=i+i / 65536:=⟨_,rfl⟩;obtain ⟨t,C⟩:∃b,b=j+j / 4294967296:=⟨_,rfl⟩;have x:f=aEi a:=by rw [o,u,z,m,n,y,k,l];rfl
 obtain ⟨w,O⟩:=aPm v (by rw [<-x];exact A) B C;have S:bits .and .u64 ((a:Int)/ 2) 6148914691236517205=(p:Int):=by rw [k];exact aCN a 1 6148914691236517205 2 v oM dC
 have V:bits .and .u64 (a:Int) 6148914691236517205=(q:Int):=by rw [l];exact aFc a 6148914691236517205 v oM
 have W:IntKind.u64.wrap (p+q)=(d:Int):=zv
 have X:bits .and .u64 ((d:Int)/ 4) 3689348814741910323=(r:Int):=by rw [m];exact aCN d 2 3689348814741910323 4 oM oM dC
 have Y:bits .and .u64 (d:Int) 3689348814741910323=(s:Int):=by rw [n];exact aFc d 3689348814741910323 oM oM
 have Z:IntKind.u64.wrap (r+s)=(e:Int):=zv
 have a0:IntKind.u64.wrap (e/ 16+e)=(g:Int):=zv
 have a1:bits .and .u64 (g:Int) 1085102592571150095=(f:Int):=by rw [o];exact aFc g 1085102592571150095 oM oM
 have a2:IntKind.u64.wrap (f+f/ 256)=(i:Int):=zv
 have T:IntKind.u64.wrap (i+i/ 65536)=(j:Int):=zv
 have U:IntKind.u64.wrap (j+j/ 4294967296)=(t:Int):=zv
 have R:t < 9223372036854775808:=oM;have D:bits .and .i64 (t:Int) 127=((bQ a 64:Nat):Int):=by have:=bits_mask .i64 63 dC (λa3 M N=>by rw [wI0];omega) 7 dC (t:Int) oM oM;rw [show ((2:Int)^ 7 - 1)=127 by decide,show ((2:Int)^ 7)=128 by decide] at this;rw [this,<-w];omega
 clear k l y m n z u J o A B C x w b1 b2 F G H;go_enter func249,ntmps249;go_wp2;go_ret;exact ⟨fM (by first | exact D | simp [D]),rfl⟩
def aKZ (d) {a c} (f:a<=c):bQ (d % 2 ^ a) c=bQ d a:=by
 obtain ⟨b,rfl⟩:∃b,c=a+b:=⟨c - a,by omega⟩;rw [aEM,aEL];have:(d % 2 ^ a)>>> a=0:=by rw [zDu];exact zGq (zFG _ (zFn a))
 rw [this];have e:∀b,bQ 0 b=0:=λb=>by unfold bQ;simp
 rw [e];rfl
def aDa (b:Nat) (a:Int):Nat:=b % 2 ^(min a.toNat 64)
def uvn (a:Nat):Value:=.int .u64 a
def uR {d:Nat} (c:Int) (y:d < 18446744073709551616) (v:-9223372036854775808<=c/\c<=9223372036854775807) (g):
 Calls prog 251 #[.int .u64 d,(c:Int)] g λi o=>i=.returned (.int .u64 (aDa d c:Nat))/\g=o:=by
 unfold aDa;by_cases f:c<=0
 .have j:d % 2 ^(min c.toNat 64)=0:=(by rw [show c.toNat=0 by omega];simp [Nat.mod_one]);rw [j];go_enter func251,ntmps251;go_wp2;go_ret;exact ⟨rfl,rfl⟩
 .by_cases m:c>=64
  .have k:d % 2 ^(min c.toNat 64)=d:=(by rw [show min c.toNat 64=64 by omega];exact zBu oM);rw [k];have s:¬(c<=0):=f;go_enter func251,ntmps251;go_wp2;go_ret;exact ⟨rfl,rfl⟩
  .obtain ⟨b,rfl⟩:∃b:Nat,c=b:=⟨c.toNat,by omega⟩;have n:b < 64:=oM;have p:=zn ((b:Int)<=0);have q:=zn ((b:Int)>=64);have l:min (b:Int).toNat 64=b:=oM;rw [l];have w:2 ^ b < 18446744073709551616:=(zj (zET (a:=2) dC n));have e:((2:Int)^ b)=((2 ^ b:Nat):Int):=(by push_cast;rfl);have x:=zFn b;have r:IntKind.u64.wrap ((2:Int)^ b)=(2:Int)^ b:=(by rw [e,kn];omega);have t:IntKind.u64.wrap ((2:Int)^ b - 1)=(2:Int)^ b - 1:=(by rw [e,kn];omega);have u:bits .and .u64 (d:Int) ((2:Int)^ b - 1)=(d:Int)% 2 ^ b:=bits_mask .u64 64 dC (λz f m=>by rw [kn];omega) b oM (d:Int) oM oM;clear e;go_enter func251,ntmps251;go_wp2;go_ret;exact ⟨by first | rfl | simp,rfl⟩
def jM (j:Option Addr) (d w r:Nat) (c:List Nat) (e:World) (o:Rd e r 1 j d (c.map uvn)) (A:∀G∈c,G < 18446744073709551616) (N:d<=1048576):
 Calls prog 235 #[.slice j d w] e λl p=>l=.returned (.int .i64 ((c.map λb=>bQ b 64).sum:Nat))/\e=p:=by
 have B:c.length=d:=by simpa using o.1
 have v:=o;have t:=A;have k:=B;have x:∀a,((c.take a).map λb=>bQ b 64).sum<=a*64:=λa=>by
  induction a with
  | zero=>simp
  | succ a F=>
   by_cases m:a < c.length;rw [zDo m,zAz,List.sum_append];have:=rJ c[a] 64;simp only [zEJ,zGv,List.sum_cons,List.sum_nil];omega;rw [zAg oM];rw [zAg oM] at F;omega
 have s:=x;go_enter func235,ntmps235;go_wp2;go_loopw [3,8] (λH i wr=>∃a:Nat,a<=d/\i=.int .i64 a/\H=.int .i64 (((c.take a).map λb=>bQ b 64).sum:Nat)/\e=wr) (λ_ i _=>d -(intOf i).toNat)
 case atStart=>exact ⟨0,zAp _,rfl,by simp,rfl⟩
 case round=>
  obtain ⟨a,m,rfl,rfl,rfl⟩:=hrel;by_cases n:a < d
  .have z:a < c.length:=(by rw [k];exact n);obtain ⟨b,g⟩:∃b,c[a]?=some b:=⟨c[a],zAa z⟩;obtain ⟨I,O,R,rfl,L,f,y⟩:=v.get n;rw [zAf,g] at f;simp at f;subst f;unfold uvn at y;have E:=t b (zAd g);have C:((c.take (a+1)).map λb=>bQ b 64).sum=((c.take a).map λb=>bQ b 64).sum+bQ b 64:=(by rw [zAv,g];simp);have K:=s a;have J:=rJ b 64;generalize ((c.take a).map λb=>bQ b 64).sum=q at*
   have u:=C;go_wp2_with fail;refine (aBN E _).mono ?_;rintro l p ⟨rfl,rfl⟩;go_wp2;go_roundw
   case rel=>exact ⟨a+1,by omega,by go_num,by rw [u];go_num,trivial⟩
   case measure=>exact zr
  .have M:d<=a:=oM;have D:c.take a=c:=zAg (zj k);rw [D];go_wp2;go_ret;exact ⟨rfl,rfl⟩
def aAg (b:Nat) (a:Int):Nat:=bQ b (min a.toNat 64)
def vW {a:Nat} (b:Int) (f:a < 18446744073709551616) (i:-9223372036854775808<=b/\b<=9223372036854775807) (d):
 Calls prog 240 #[.int .u64 a,(b:Int)] d λc e=>c=.returned (.int .i64 (aAg a b:Nat))/\Below d.heap.size d e:=by
 have j:aDa a b < 18446744073709551616:=by unfold aDa;exact zDF (Nat.mod_le _ _) f
 have g:bQ (aDa a b) 64=aAg a b:=aKZ a (Nat.min_le_right _ _);go_enter func240,ntmps240;go_wp2_with fail;refine (uR b f i _).mono ?_;rintro c e ⟨rfl,rfl⟩;go_wp2_with fail;refine (jM _ 1 1 _ [aDa a b] _ (Rd.made _ _ 1 1 _ rfl) (by simpa using j) oM).mono ?_;rintro c e ⟨rfl,rfl⟩;have k:(([aDa a b].map λa=>bQ a 64).sum)=aAg a b:=by simp [g]
 rw [k];go_wp2;go_ret;exact ⟨rfl,bR.alloc nL _⟩
def mN:List Bool->Nat
 | []=>0
 | b::l=>(if b then 1 else 0)+2*mN l
def zK (a):mN a < 2 ^ a.length:=by
 induction a with
 | nil=>simp [mN]
 | cons b a c=>
  simp only [mN,zCg,zEM];cases b <;> simp <;> omega
def lN (b a):(mN b).testBit a=b.getD a false:=by
 induction b generalizing a with
 | nil=>simp [mN]
 | cons c b e=>
  cases a with
  | zero=>
   simp only [mN,List.getD_cons_zero,zEH];cases c <;> simp <;> omega
  | succ a=>
   have d:((if c then 1 else 0)+2*mN b)/ 2=mN b:=(by cases c <;> simp <;> omega);simp only [mN,List.getD_cons_succ,zEt,d];exact e a
def aEX (a b):mN (a++b)=mN a+2 ^ a.length*mN b:=by
 induction a with
 | nil=>simp [mN]
 | cons d a c=>
  simp only [zEm,mN,c,zCg,zEM];cases d <;> simp <;> rw [Nat.mul_add,<-Nat.mul_assoc,zFY 2 (2 ^ a.length)] <;> omega
def rR (b a):bQ (mN b) a=(b.take a).count true:=by
 induction a with
 | zero=>simp [rI]
 | succ a e=>
  rw [dW,e,lN,zAv,zCc];cases c:b[a]? with
  | none=>simp [zAb,c]
  | some d=>cases d <;> simp [zAb,c]
def aCo (b a):mN (b++ [a])=mN b+if a then 2 ^ b.length else 0:=by
 rw [aEX];cases a <;> simp [mN]
def aKY (a b) (c:a < 2 ^ b):a||| 2 ^ b=a+2 ^ b:=by
 have:=Nat.two_pow_add_eq_or_of_lt c 1;rw [zBl] at this;rw [Nat.or_comm,<-this,zCt]
def w0 (a:List Bool):Nat:=mN (a.take 64)
def w1 (a:List Bool):Nat:=mN (a.drop 64)
def pG (a):w0 a < 18446744073709551616:=by
 have c:=zK (a.take 64);have b:(a.take 64).length<=64:=by rw [zAj];omega
 have d:=zBp (n:=2) dC b;unfold w0;omega
def pA {l} (d:l.length<=128):w1 l < 18446744073709551616:=by
 have b:=zK (l.drop 64);have a:(l.drop 64).length<=64:=by rw [zAw];omega
 have c:=zBp (n:=2) dC a;unfold w1;omega
def aNU {a} (b:a.length<=128):bQ (w0 a) 64+bQ (w1 a) 64=a.count true:=by
 unfold w0 w1;rw [rR,rR,zEy,Nat.min_self,zAg (l:=a.drop 64) (by rw [zAw];omega),<-zCc,zAu]
def aNT {b a} (g:b.length<=128) (f:a<=b.length):bQ (w0 b) (min a 64)+bQ (w1 b) (min (a - 64) 64)=(b.take a).count true:=by
 unfold w0 w1;rw [rR,rR,zEy];rcases zBe a 64 with e | e
 .have c:min (min a 64) 64=a:=oM;have d:min (a - 64) 64=0:=oM;rw [c,d,zDN,zEz,zBq]
 have c:min (min a 64) 64=64:=oM;have d:min (a - 64) 64=a - 64:=oM;rw [c,d,<-zCc];congr 1;rw [<-zAu 64 (b.take a),zEy,List.drop_take];congr 2;omega
def aBZ (a b) (c:a.length < 64):w0 (a++ [b])=w0 a+(if b then 2 ^ a.length else 0)/\w1 (a++ [b])=w1 a:=by
 unfold w0 w1;rw [zAg zt,zAg oM,zEE zt,zEE oM];exact ⟨aCo a b,rfl⟩
def aB0 (a b) (c:64<=a.length):w0 (a++ [b])=w0 a/\w1 (a++ [b])=w1 a+(if b then 2 ^(a.length - 64) else 0):=by
 unfold w0 w1;rw [zDi c,zDC c,aCo,zAw];exact ⟨rfl,rfl⟩
def aJ0 (a) (b:a.length < 64):w0 a < 2 ^ a.length:=by
 unfold w0;rw [zAg oM];exact zK a
def aJY (a):w1 a < 2 ^(a.length - 64):=by
 unfold w1;have:=zK (a.drop 64);rwa [zAw] at this
section
section
variable {P : Program} {ops : Array Oper} {Q : Exit -> Act -> World -> Prop} {md : Region.Mode}
def tU (o) {C} {S:Nat->World->World->Prop} {U:Nat->World->Prop} {V} (f) {k} (x:ops.toList.filterMap (·.dst)=o) (A:kL md ops f.tmps.size=true) (t:C k) (v:∀a,U a k) (s:∀c b d,C b->S c b d->C d) (u:∀a c b d,a≠c->upB md ops ops.size c a=false->U a b->C b->S c b d->U a d) (D:∀a c e b d,a≠c->aDt md ops a c=false->V a e b->C b->S c b d->V a e d) (E:∀c j,ops[c]?=some j->dN P ops Q md C S U V f c j) (y:∀(i:Operand->Value) b,C b->(∀a g,((ops[a]?).bind (·.dst))=some g->V a (i (.tmp g)) b)->(∀a,a < ops.size->∃e,V a e b)->Q .normal (dJ i o f) b):
 wpAny P md ops Q ops.size (Array.replicate ops.size false) f k:=by
 exact mP (n:=ops.size) (C:=λ_=>C) (S:=λc _=>S c) (U:=U) (V:=λa _=>V a) (by rw [zR];exact x) nL A (λr a p m=>absurd m oM) t v (λc _ _ _ _ b d _ _ _ _ l r=>s c b d l r) (λa c _ _ b d _=>u a c b d) (λ_ _ _ _ _ _ _ _ l=>l) (λa c _ _ _ e _ b d _ z _ _ p m=>D a c e b d p (aHf z m)) (λc j _ B=>E c j B) λi b H w F G=>qD rfl (y i b w (λa g q=>F a g (aGX q) q) G)
end
def yM (e:Nat->Prop) (a b:Nat) (c d:World):Prop:=(b=a->Keep e c d)/\(b≠a->Grow c d)
def kZ {a b e f g} (c:yM a b e f g):Keep a f g:=by
 by_cases d:e=b;exact c.1 d;exact kF (c.2 d)
def aE {d e f b c} (a:Grow b c):yM d e f b c:=⟨λ_=>kF a,λ_=>a⟩
def kq {e:Nat->Prop} {f j:Nat} {b:World} {d Q:Value->World->Prop} (i:∀a c,yM e f j b c->d a c->Q a c) {a:Value} (g:d a b):Q a b:=i a b (aE bR) g
def aW {a b c d} (f:Keep a c d):yM a b b c d:=⟨λ_=>f,λe=>absurd rfl e⟩
def tO (e:Nat->Prop) (a:Value->World->Prop):Prop:=∀b c d,a b c->Keep e c d->a b d
def gK (a b):tO a (is b):=λ_ _ _ c _=>c
def zU {i c} (k:∀g∈c,tO i g):∀b d e f,Vs c b d e->Keep i e f->Vs c b d f:=by
 intro b d e f a l;unfold Vs at a⊢;rw [zAb] at a⊢;cases j:c[b]? with
 | none=>simp
 | some g=>rw [j] at a;simp only [zFd] at a⊢;exact k g (zAd j) d e f a l
def VsJ (b:Nat) (d:Value->World->Prop) (c:List (Value->World->Prop)) (a:Nat):Value->World->Prop:=if a=b then d else Vs c a
def bM {P:Program} {ops:Array Oper} {Q:Exit->Act->World->Prop} {md:Region.Mode} (o:List Nat) (g:Nat->Prop) (c:Nat) (w:List Nat) {pre:World->Prop} {pJ:Value->World->Prop} (m:List (Value->World->Prop)) (j:Act) {i:World} (B:ops.toList.filterMap (·.dst)=o) (D:kL md ops j.tmps.size=true) (G:(w.all λb=>b==c||upB md ops ops.size c b)=true) (F:pre i) (E:∀a d,pre a->Keep g i a->Grow a d->pre d) (A:Stb pJ) (H:∀K∈m,tO g K) (I:∀e v,ops[e]?=some v->dN P ops Q md (Keep g i) (yM g c) (λb a=>w.contains b=true->pre a) (VsJ c pJ m) j e v) (C:∀(r:Operand->Value) a,Keep g i a->(∀b q,((ops[b]?).bind (·.dst))=some q->VsJ c pJ m b (r (.tmp q)) a)->(∀b,b < ops.size->∃n,VsJ c pJ m b n a)->Q .normal (dJ r o j) a):
 wpAny P md ops Q ops.size (Array.replicate ops.size false) j i:=by
 refine tU o j B D (ke _ _) (λ_ _=>F) (λe a d y f=>y.trans (kZ f)) (λb e a d p J k z f t=>?_) (λb e n a d p _ l _ f=>?_) I C;by_cases u:e=c;exfalso;subst u;have s:=zBf.1 G b (by simpa using t);simp only [J,zGn,zCr] at s;exact p s;exact E a d (k t) z (f.2 u);unfold VsJ at l⊢;by_cases k:b=c;rw [zBx k] at l⊢;exact A n a d l (f.2 λx=>p (k.trans x.symm));rw [zBw k] at l⊢;exact zU H b n a d l (kZ f)
def aCi {d m n a k j f l o} (g:m.ownsRow a f k l j o) (v:Keep d m n) (u:∀e,d e->e < a):n.ownsRow a f k l j o:=by
 refine ⟨g.1,?_⟩;rcases g.2 with c |⟨b,p,q,c,s,i,t⟩;exact .inl c;exact .inr ⟨b,p,q,c,s,(v.block b (lt_of_block i) (λr=>by have:=u b r;omega)).trans i,t⟩
def Made.o {d m n b l k f g c o} (a:Made m b g l c k f o) (j:Keep d m n) (i:∀e,d e->e < b):Made n b g l c k f o:=
 ⟨aCi a.own j i,Rd.s (aCi a.own j i),a.cap,a.max⟩
def Made.mono {g B B' f e c d b i} (a:Made g B d f b e c i) (hB:B'<=B):Made g B' d f b e c i:=⟨cG a.own hB,a.rd,a.cap,a.max⟩
def jD (d:Nat) (e:TypeId) (f c:Nat) (j:List Value):Value->World->Prop:=λg i=>∃a b,g=.slice a c b/\Made i d e f a c b j
def mT {b a} (j:∀c,b c->c < a) (f m l n):tO b (jD a f m l n):=λ_ _ _ ⟨d,e,g,i⟩ k=>⟨d,e,g,i.o k j⟩
def pT (b:Nat->Prop) (d:TypeId) (c:Array Value) (mk:Nat->Value):Value->World->Prop:=λe f=>∃a,e=mk a/\Bk f a d c/\¬b a
def zT (a d c) (mk:Nat->Value):tO a (pT a d c mk):=λ_ _ _ ⟨e,f,g,b⟩ i=>⟨e,f,i.d g b,b⟩
def cO:Value->World->Prop:=λ_ _=>True
def fB (a):tO a cO:=λ_ _ _ _ _=>trivial
end
def dL (a:List Bool):Array Value:=#[.int .i64 a.length,.int .u64 (w0 a:Nat),.int .u64 (w1 a:Nat)]
def aIS (a:Nat) {b:Nat} (e:a < 18446744073709551616) (f:b < 18446744073709551616):bits .or .u64 (a:Int) (b:Int)=((a||| b:Nat):Int):=
 (bits_nat .u64 64 dC (λg c d=>by rw [kn];omega) a b oM oM).2
def gQ {A m} (ac) {a5 l w} (s:Rd w a5 1 A m (l.map Value.bool)) (hB:a5<=w.heap.size) (aH:m<=128):
 Calls prog 232 #[.slice A m ac] w λJ a9=>J=.returned (.tuple #[w.heap.size,o0])/\Bk a9 w.heap.size 240 (dL l)/\Below w.heap.size w a9:=by
 have au:l.length=m:=by simpa using s.1
 obtain ⟨U,ab⟩:=hqq2 au (s.mono hB);have aD:¬((m:Int) > 128):=oM;obtain ⟨c,a0⟩:=eqx w.heap.size;go_enter func232,ntmps232;go_wp2;have ap:=(kg w.heap.size w).alloc nL (.cells #[(m:Int),.int .u64 0,.int .u64 0] 240);have a6:=kd w 240 #[(m:Int),.int .u64 0,.int .u64 0];rw [a0] at a6
 try rw [a0]
 go_loopw [16] (λa3 wr=>∃b:Nat,b<=m/\a3=.int .i64 b/\Bk wr c 240 #[(m:Int),.int .u64 (w0 (l.take b):Nat),.int .u64 (w1 (l.take b):Nat)]/\Below w.heap.size w wr) (λa3 _=>m -(intOf a3).toNat)
 case atStart=>exact ⟨0,zAp _,rfl,a6,ap⟩
 case round=>
  obtain ⟨b,aG,rfl,B,u⟩:=hrel;have a8:=u.size;by_cases a7:b < m
  .have ar:b < l.length:=(by rw [U.out];exact a7);obtain ⟨S,R⟩:∃S,l[b]?=some S:=⟨l[b],zAa ar⟩;obtain ⟨k,aI,aJ,rfl,aA,a2,aC⟩:=(ab.below u).get a7;rw [zAf,R] at a2;simp at a2;subst a2;have C:l.take (b+1)=l.take b++ [S]:=(by rw [zAv,R];rfl);have G:(l.take b).length=b:=(by rw [zAj];omega);cases S with
   | false=>
    have q:w0 (l.take (b+1))=w0 (l.take b)/\w1 (l.take (b+1))=w1 (l.take b):=(by rw [C];rcases zBe b 64 with i | i;have:=aBZ (l.take b) false oM;simpa using this;have:=aB0 (l.take b) false oM;simpa using this);obtain ⟨Hn,aa⟩:=hqq2 q B;go_wp2;go_roundw
    case rel=>exact ⟨b+1,by omega,by go_num,by rw [Hn.1,Hn.2];exact aa,u⟩
    case measure=>exact zr
   | true=>
    rcases zBe b 64 with ao | ao
    .obtain ⟨f,s⟩:∃f:Nat,f=b:=⟨_,rfl⟩;have aw:IntKind.i64.wrap (b/ 64)=0:=zu;have av:(b:Int).tmod 64=f:=(by rw [zDA oM];omega);have ax:IntKind.u64.wrap f=(f:Int):=zv;have a1:f < 64:=oM;obtain ⟨P,j⟩:∃P:Nat,P=2 ^ f:=⟨_,rfl⟩;have W:P < 18446744073709551616:=(zj (zET (a:=2) dC a1));obtain ⟨g,t⟩:∃g:Nat,g=w0 (l.take b):=⟨_,rfl⟩;obtain ⟨o,z⟩:∃o:Nat,o=w1 (l.take b):=⟨_,rfl⟩;obtain ⟨n,y⟩:∃n:Nat,n=g+P:=⟨_,rfl⟩;have L:g < P:=(by have:=aJ0 (l.take b) oM;rw [G] at this;rw [t,j,s];exact this);have q:=aBZ (l.take b) true oM;rw [<-C,<-t,<-z,G] at q;have M:w0 (l.take (b+1))=n/\w1 (l.take (b+1))=o:=⟨by rw [q.1,y,j,s];rfl,q.2⟩;have N:bits .or .u64 (g:Int) (P:Int)=(n:Int):=(by rw [aIS g oM W,j,aKY g f (by rw [<-j];exact L),y,j]);have T:=lhd N;have K:IntKind.u64.wrap ((2:Int)^ f)=(P:Int):=(by rw [j,kn];have J:((2:Int)^ f)=((2 ^ f:Nat):Int):=(by push_cast;rfl);rw [J,<-j];omega);obtain ⟨H,I⟩:=hqq2 K M;rw [<-t,<-z] at B;clear N K q M t z y j L C G R s;go_wp2;refine wp_region_any kR<|bM (pJ:=(λ_ w1=>Bk w1 c 240 #[(m:Int),.int .u64 n,.int .u64 o])) [22,23,24,25,26,27,28,29,30,31,32,33,34,35,36] (λk=>k=c) 15 [6,15] [is (.pointer (some ⟨c,0,none⟩)),is (b:Int),is o0,is (.pointer (some ⟨c,0,none⟩)),is (.pointer (some ⟨c,1,none⟩)),is (.pointer (some ⟨c,1,none⟩)),is (.int .u64 g),is (b:Int),is (f:Int),is (.int .u64 f),is (.int .u64 P),is (.int .u64 n),is (.pointer (some ⟨c,0,none⟩)),is (.pointer (some ⟨c,1,none⟩)),is (.pointer (some ⟨c,1,none⟩)),cO] _ rfl kR kR (B) (λw1 az i _ Z=>kf i Z i.lt) (λ_ _ _ i b=>kf i b i.lt) tA1 ?_ ?_
     .refine aL<|pH3 4 (.pointer (some ⟨c,0,none⟩))<|pH3 5 (.int .i64 b)<|sC3 (λ_ _ _ _ _ _ _ d _ _ _ e=>?_) ?_
      .have ad:_=_:=d 1 23 kR rfl;go_simp;exact e _ _ (aE bR) (cS (by first | rfl | omega))
      refine pV3 0 22<|pV3 3 25<|pW3 4 26 2 24<|sC3 (λ_ D _ x _ _ _ d _ _ _ e=>?_) ?_
      .have r:=x rfl;have ae:_=_:=d 5 27 kR rfl;have V:D.cell? ⟨c,1,none⟩=some (.int .u64 g):=(r.cell 1).trans rfl;go_simp;exact kq e rfl
      refine pH3 5 (.int .i64 b)<|sC3 (λ_ _ _ _ _ _ _ d _ _ _ e=>?_) ?_
      .have ag:_=_:=d 7 29 kR rfl;go_simp;exact e _ _ (aE bR) (cS (by first | rfl | omega))
      refine sC3 (λ_ _ _ _ _ _ _ d _ _ _ e=>?_) ?_
      .have ah:_=_:=d 8 30 kR rfl;go_simp;exact e _ _ (aE bR) (iT (by first | rfl | omega))
      refine sC3 (λ_ _ _ _ _ _ _ d _ _ _ e=>?_) ?_
      .have ai:_=_:=d 9 31 kR rfl;go_simp;exact e _ _ (aE bR) (iT (by first | exact H | simpa using H.out))
      refine sC3 (λ_ _ _ _ _ _ _ d _ _ _ e=>?_) ?_
      .have af:_=_:=d 6 28 kR rfl;have aj:_=_:=d 10 32 kR rfl;go_simp;exact e _ _ (aE bR) (iT T)
      refine pV3 0 22<|pV3 12 34<|pW3 13 35 2 24<|sC3 (λ_ D _ x _ _ _ d _ _ _ e=>?_) ?_
      .have r:=x rfl;have al:_=_:=d 14 36 kR rfl;have ak:_=_:=d 11 33 kR rfl;have V:D.cell? ⟨c,1,none⟩=some (.int .u64 g):=(r.cell 1).trans rfl;have an:=r.frozen 1;go_simp;exact e (.bool true) _ (aW (ka (F:=λk=>k=c) (ke _ _) (p:=⟨c,1,none⟩) (.inl rfl) _)) (r.set 1 _)
      exact aB
     .intro am E v d X;replace v:Keep (λk=>k=c) wr E:=kD v;obtain ⟨ay,O⟩:∃a4,(λ_ w1=>Bk w1 c 240 #[(m:Int),.int .u64 n,.int .u64 o]) a4 E:=X 15 dC;simp only [zqq];have Y:Below w.heap.size w E:=u.trans (v.e a8 (λk u i=>absurd (show k=c from i) oM));go_wp2;go_roundw
      case rel=>exact ⟨b+1,by omega,by go_num,by rw [I.1,I.2];exact O,Y⟩
      case measure=>exact zr
    .obtain ⟨f,s⟩:∃f:Nat,f=b - 64:=⟨_,rfl⟩;have aw:IntKind.i64.wrap (b/ 64)=1:=zu;have av:(b:Int).tmod 64=f:=(by rw [zDA oM];omega);have ax:IntKind.u64.wrap f=(f:Int):=zv;have a1:f < 64:=oM;obtain ⟨P,j⟩:∃P:Nat,P=2 ^ f:=⟨_,rfl⟩;have W:P < 18446744073709551616:=(zj (zET (a:=2) dC a1));obtain ⟨g,t⟩:∃g:Nat,g=w1 (l.take b):=⟨_,rfl⟩;obtain ⟨o,z⟩:∃o:Nat,o=w0 (l.take b):=⟨_,rfl⟩;obtain ⟨n,y⟩:∃n:Nat,n=g+P:=⟨_,rfl⟩;have L:g < P:=(by have:=aJY (l.take b);rw [G] at this;rw [t,j,s];exact this);have q:=aB0 (l.take b) true oM;rw [<-C,<-t,<-z,G] at q;have M:w1 (l.take (b+1))=n/\w0 (l.take (b+1))=o:=⟨by rw [q.2,y,j,s];rfl,q.1⟩;have N:bits .or .u64 (g:Int) (P:Int)=(n:Int):=(by rw [aIS g oM W,j,aKY g f (by rw [<-j];exact L),y,j]);have T:=lhd N;have K:IntKind.u64.wrap ((2:Int)^ f)=(P:Int):=(by rw [j,kn];have J:((2:Int)^ f)=((2 ^ f:Nat):Int):=(by push_cast;rfl);rw [J,<-j];omega);obtain ⟨H,I⟩:=hqq2 K M;rw [<-t,<-z] at B;clear N K q M t z y j L C G R s;go_wp2;refine wp_region_any kR<|bM (pJ:=(λ_ w1=>Bk w1 c 240 #[(m:Int),.int .u64 o,.int .u64 n])) [22,23,24,25,26,27,28,29,30,31,32,33,34,35,36] (λk=>k=c) 15 [6,15] [is (.pointer (some ⟨c,0,none⟩)),is (b:Int),is (.int .i64 1),is (.pointer (some ⟨c,0,none⟩)),is (.pointer (some ⟨c,1,none⟩)),is (.pointer (some ⟨c,2,none⟩)),is (.int .u64 g),is (b:Int),is (f:Int),is (.int .u64 f),is (.int .u64 P),is (.int .u64 n),is (.pointer (some ⟨c,0,none⟩)),is (.pointer (some ⟨c,1,none⟩)),is (.pointer (some ⟨c,2,none⟩)),cO] _ rfl kR kR (B) (λw1 az i _ Z=>kf i Z i.lt) (λ_ _ _ i b=>kf i b i.lt) tA1 ?_ ?_
     .refine aL<|pH3 4 (.pointer (some ⟨c,0,none⟩))<|pH3 5 (.int .i64 b)<|sC3 (λ_ _ _ _ _ _ _ d _ _ _ e=>?_) ?_
      .have ad:_=_:=d 1 23 kR rfl;go_simp;exact e _ _ (aE bR) (cS (by first | rfl | omega))
      refine pV3 0 22<|pV3 3 25<|pW3 4 26 2 24<|sC3 (λ_ D _ x _ _ _ d _ _ _ e=>?_) ?_
      .have r:=x rfl;have ae:_=_:=d 5 27 kR rfl;have V:D.cell? ⟨c,2,none⟩=some (.int .u64 g):=(r.cell 2).trans rfl;go_simp;exact kq e rfl
      refine pH3 5 (.int .i64 b)<|sC3 (λ_ _ _ _ _ _ _ d _ _ _ e=>?_) ?_
      .have ag:_=_:=d 7 29 kR rfl;go_simp;exact e _ _ (aE bR) (cS (by first | rfl | omega))
      refine sC3 (λ_ _ _ _ _ _ _ d _ _ _ e=>?_) ?_
      .have ah:_=_:=d 8 30 kR rfl;go_simp;exact e _ _ (aE bR) (iT (by first | rfl | omega))
      refine sC3 (λ_ _ _ _ _ _ _ d _ _ _ e=>?_) ?_
      .have ai:_=_:=d 9 31 kR rfl;go_simp;exact e _ _ (aE bR) (iT (by first | exact H | simpa using H.out))
      refine sC3 (λ_ _ _ _ _ _ _ d _ _ _ e=>?_) ?_
      .have af:_=_:=d 6 28 kR rfl;have aj:_=_:=d 10 32 kR rfl;go_simp;exact e _ _ (aE bR) (iT T)
      refine pV3 0 22<|pV3 12 34<|pW3 13 35 2 24<|sC3 (λ_ D _ x _ _ _ d _ _ _ e=>?_) ?_
      .have r:=x rfl;have al:_=_:=d 14 36 kR rfl;have ak:_=_:=d 11 33 kR rfl;have V:D.cell? ⟨c,2,none⟩=some (.int .u64 g):=(r.cell 2).trans rfl;have an:=r.frozen 2;go_simp;exact e (.bool true) _ (aW (ka (F:=λk=>k=c) (ke _ _) (p:=⟨c,2,none⟩) (.inl rfl) _)) (r.set 2 _)
      exact aB
     .intro am E v d X;replace v:Keep (λk=>k=c) wr E:=kD v;obtain ⟨ay,O⟩:∃a4,(λ_ w1=>Bk w1 c 240 #[(m:Int),.int .u64 o,.int .u64 n]) a4 E:=X 15 dC;simp only [zqq];have Y:Below w.heap.size w E:=u.trans (v.e a8 (λk u i=>absurd (show k=c from i) oM));go_wp2;go_roundw
      case rel=>exact ⟨b+1,by omega,by go_num,by rw [I.1,I.2];exact O,Y⟩
      case measure=>exact zr
  .have aF:m<=b:=oM;have C:l.take b=l:=zAg (zj U.out);rw [C] at B;have aq:Bk wr c 240 (dL l):=(by unfold dL;rw [U.out];exact B);go_wp2;go_ret2;rw [a0] at u⊢;exact ⟨rfl,aq,u⟩
def kT {gb l w} (b:Bk w gb 240 (dL l)):
 Calls prog 246 #[gb] w λa c=>a=.returned (.int .i64 l.length)/\w=c:=by
 have d:w.cell? gb=some (.int .i64 l.length):=(b.cell 0).trans rfl;go_enter func246,ntmps246;go_wp2;go_ret;exact ⟨rfl,rfl⟩
def aOA {d a c} (e:Bk d a 240 (dL c)):Rd d d.heap.size 1 (some ⟨a,1,none⟩) 2 ([w0 c,w1 c].map uvn):=by
 refine ⟨rfl,λ_=>⟨a,1,rfl,e.lt,λf g b=>?_⟩⟩;rw [e.cell];rcases f with _ | _ | f;exact b;exact b
 .simp at b
def aBX {gb l w} (e:Bk w gb 240 (dL l)) (b:l.length<=128):
 Calls prog 253 #[gb] w λa d=>a=.returned (.int .i64 (l.count true:Nat))/\w=d:=by
 have f:(([w0 l,w1 l].map λg=>bQ g 64).sum)=l.count true:=by rw [<-aNU b];simp
 go_enter func253,ntmps253;go_wp2_with fail;refine (jM _ 2 2 _ [w0 l,w1 l] _ (aOA e) (by intro i c;simp at c;rcases c with rfl | rfl;exact pG l;exact pA b) oM).mono ?_;rintro a d ⟨rfl,rfl⟩;rw [f];go_wp2;go_ret;exact ⟨rfl,rfl⟩
def ix0 (a c b):(Instr.index 238 (.agg #[.int .u64 a,.int .u64 c]) (.int .i64 0)).run prog b=.ok (.int .u64 a) b:=by kernel_rfl
def ix1 (c a b):(Instr.index 238 (.agg #[.int .u64 c,.int .u64 a]) (.int .i64 1)).run prog b=.ok (.int .u64 a) b:=by kernel_rfl
def aBW {g c a d} (b:Bk d g 240 (dL c)) (t:c.length<=128) (A:a<=c.length):
 Calls prog 229 #[g,(a:Int)] d λk p=>k=.returned (.int .i64 ((c.take a).count true:Nat))/\Below d.heap.size d p:=by
 have s:=aNT t A;obtain ⟨j,C⟩:=eqx c.length;obtain ⟨f,m⟩:=eqx (w0 c);obtain ⟨i,n⟩:=eqx (w1 c);have y:f < 18446744073709551616:=by rw [<-m];exact pG c
 have b1:i < 18446744073709551616:=by rw [<-n];exact pA t
 have E:aAg f (a:Int)=bQ f (min a 64):=by unfold aAg;rw [zBr]
 have F:aAg i ((a:Int) - 64)=bQ i (min (a - 64) 64):=by unfold aAg;congr 2;omega
 rw [m,n] at s;have M:=rJ f (min a 64);have N:=rJ i (min (a - 64) 64);have z:d.cell? g=some (.int .i64 j):=by rw [<-C];exact (b.cell 0).trans rfl
 have q:d.cell? ⟨g,1,none⟩=some (.int .u64 f):=by rw [<-m];exact (b.cell 1).trans rfl
 have r:d.cell? ⟨g,2,none⟩=some (.int .u64 i):=by rw [<-n];exact (b.cell 2).trans rfl
 have B:=b.lt;have J:a<=j:=oM;have K:j<=128:=oM;have O:max (a:Int) 0=(a:Int):=oM;have R:min (a:Int) (j:Int)=(a:Int):=oM;have v:=s;have w:=E;have k0:=ix0;have L:=ix1;have x:=F;go_enter func229,ntmps229;go_wp2;go_loopw [5,14] (λG o wr=>∃e:Nat,e<=2/\o=.int .i64 e/\G=.int .i64 ((if e=0 then 0 else if e=1 then bQ f (min a 64) else (c.take a).count true):Nat)/\Below d.heap.size d wr) (λ_ o _=>2 -(intOf o).toNat)
 case atStart=>exact ⟨0,by omega,rfl,rfl,kg _ _⟩
 case round=>
  obtain ⟨e,I,rfl,rfl,b⟩:=hrel;have u:=b.size;have H:wr.cell? g=some (.int .i64 j):=(b.cell B).trans z;rcases e with _ | _ | _ | e
  .clear q r;simp only [if_true];go_wp2_with fail;refine (vW (a:Int) y oM _).mono ?_;rintro k p ⟨rfl,l⟩;rw [w];have hB:=b.trans (l.mono u);go_wp2;go_roundw
   case rel=>exact ⟨1,by omega,by go_num,by simp,hB⟩
   case measure=>simp [intOf]
  .clear q r;simp only [zBi,Nat.one_ne_zero,if_false,if_true];go_wp2_with fail;refine (vW ((a:Int) - 64) b1 oM _).mono ?_;rintro k p ⟨rfl,l⟩;rw [x];have hB:=b.trans (l.mono u);have D:(((bQ f (min a 64):Nat):Int)+(bQ i (min (a - 64) 64):Nat))=(((c.take a).count true:Nat):Int):=(by rw [<-v];push_cast;rfl);go_wp2;go_roundw
   case rel=>exact ⟨2,by omega,by go_num,by first | rfl |(simp;done)| exact cS (by simpa using D),hB⟩
   case measure=>simp [intOf]
  .simp only [show ¬(0+1+1=0) by omega,show ¬(0+1+1=1) by omega,if_false];go_wp2;go_ret;exact ⟨rfl,b⟩
  omega
def nE:(prog.info? 4).map (λa=>(a.zero,a.size,a.bytes))=some (some (.bool false),1,1):=by kernel_rfl
def vX (a):
 Calls prog 79 #[(268435456:Int)] a λc b=>c=.returned (.pointer (some a.heap.size))/\Bk b a.heap.size 173 #[(),(),(268435456:Int)]/\Below a.heap.size a b:=by
 go_enter func79,ntmps79;go_wp2;go_ret;exact ⟨rfl,kd _ _ _,bR.alloc nL _⟩
def aGt {c a g f} (d:Bk c a g #[f]):Rd c c.heap.size 1 (some ⟨a,0,none⟩) 1 [f]:=by
 refine ⟨rfl,λ_=>⟨a,0,rfl,d.lt,λb i e=>?_⟩⟩;rw [zBi,d.cell b];rcases b with _ | b;exact e
 .simp at e
def aC {m w' e a l k d n} (j:m.ownsRow e a l d k n) (s:∀c f,d.ownBlock=some c->Bk m c a f->Bk w' c a f):w'.ownsRow e a l d k n:=by
 refine ⟨j.1,?_⟩;rcases j.2 with b |⟨i,o,g,b,p,q,r⟩;exact .inl b;exact .inr ⟨i,o,g,b,p,s i g (by rw [b];rfl) q,r⟩
def wN {m d g c l k i f n} (e:Made m g c l f k i n) (o:∀a b,Bk m a c b->Bk d a c b):Made d g c l f k i n:=by
 have j:=aC (w':=d) e.own λa b _=>o a b;exact ⟨j,Rd.s j,e.cap,e.max⟩
structure VisF (F:Nat->Prop) (w w':World):Prop where
 os:w'.os=w.os
 tape:w'.tape=w.tape
 output:w'.output=w.output
 size:w.heap.size<=w'.heap.size
 block:∀b,b < w.heap.size->¬F b->w'.heap[b]?=w.heap[b]?∨(∃cs v,Bk w b 223 cs/\Bk w' b 223 (cs.setIfInBounds 3 (.int .i64 v)))∨(∃cs v,Bk w b 181 cs/\Bk w' b 181 (cs.setIfInBounds 10 (.int .i64 v)))
abbrev Vis:World->World->Prop:=VisF (λ_=>False)
def Vis.refl (a):Vis a a:=⟨rfl,rfl,rfl,zAs _,λ_ _ _=>.inl rfl⟩
def VisF.C {d b c} (a:Vis b c):VisF d b c:=⟨a.os,a.tape,a.output,a.size,λe f _=>a.block e f (λg=>g)⟩
def VisF.O {b c d} (a:Keep b c d):VisF b c d:=⟨a.os,a.tape,a.output,a.size,λe f g=>.inl (a.block e f g)⟩
def VisF.ak {d c f} (b:VisF d c f) (g:∀a,a < c.heap.size->¬d a):Vis c f:=⟨b.os,b.tape,b.output,b.size,λa e _=>b.block a e (g a e)⟩
def set_set (b:Array Value) (a:Nat) (d c:Value):(b.setIfInBounds a d).setIfInBounds a c=b.setIfInBounds a c:=by
 apply zGk
 .simp
 .intro g e f;simp [Array.getElem_setIfInBounds]
def aU {i d f g b c} (e:Bk i d f b) (a:Bk i d g c):f=g/\b=c:=by
 unfold Bk at e a;rw [e] at a;injection a with a;injection a with h1 h2;exact ⟨h2,h1⟩
def VisF.trans {F o w1 p} (e:VisF F o w1) (g:VisF F w1 p):VisF F o p:=by
 refine ⟨g.os.trans e.os,g.tape.trans e.tape,g.output.trans e.output,zAk e.size g.size,λj m n=>?_⟩;have q:j < w1.heap.size:=zAl m e.size;rcases e.block j m n with b |⟨f,l,b,c⟩|⟨f,l,b,c⟩<;> rcases g.block j q n with a |⟨k,i,a,d⟩|⟨k,i,a,d⟩;exact .inl (a.trans b);exact .inr (.inl ⟨k,i,b.symm.trans a,d⟩);exact .inr (.inr ⟨k,i,b.symm.trans a,d⟩);exact .inr (.inl ⟨f,l,b,a.trans c⟩);obtain ⟨_,rfl⟩:=aU c a;rw [set_set] at d;exact .inr (.inl ⟨f,i,b,d⟩);exact absurd (aU c a).1 dC;exact .inr (.inr ⟨f,l,b,a.trans c⟩);exact absurd (aU c a).1 dC;obtain ⟨_,rfl⟩:=aU c a;rw [set_set] at d;exact .inr (.inr ⟨f,i,b,d⟩)
def Vis.trans {a w1 b} (c:Vis a w1) (d:Vis w1 b):Vis a b:=VisF.trans c d
def Vis.j {b c} (a:Below b.heap.size b c):Vis b c:=⟨a.os,a.tape,a.output,a.size,λd e _=>.inl (a.block d e)⟩
abbrev kb:=@Vis.j
def Vis.E {b a d} (f:Bk b a 223 d) (g):Vis b (b.setCell ⟨a,3,none⟩ (.int .i64 g)):=by
 refine ⟨rfl,rfl,rfl,by simp [World.setCell],λc j _=>?_⟩;by_cases e:c=a;subst e;exact .inr (.inl ⟨d,g,f,f.set 3 _⟩);exact .inl (heap_setCell_other b ⟨a,3,none⟩ c _ (λi=>e i))
def Vis.N {b a d} (f:Bk b a 181 d) (g):Vis b (b.setCell ⟨a,10,none⟩ (.int .i64 g)):=by
 refine ⟨rfl,rfl,rfl,by simp [World.setCell],λc j _=>?_⟩;by_cases e:c=a;subst e;exact .inr (.inr ⟨d,g,f,f.set 10 _⟩);exact .inl (heap_setCell_other b ⟨a,10,none⟩ c _ (λi=>e i))
def VisF.put {F k w1} (b:VisF F k w1) {p} (c:F p.block∨k.heap.size<=p.block) (i):VisF F k (w1.setCell p i):=by
 refine ⟨b.os,b.tape,b.output,by simpa [World.setCell] using b.size,λd m l=>?_⟩;have f:(w1.setCell p i).heap[d]?=w1.heap[d]?:=heap_setCell_other w1 p d i (λn=>by
  rcases c with c | c;rw [<-n] at c;exact l c
  .omega)
 rcases b.block d m l with a |⟨e,j,a,g⟩|⟨e,j,a,g⟩;exact .inl (f.trans a);exact .inr (.inl ⟨e,j,a,f.trans g⟩);exact .inr (.inr ⟨e,j,a,f.trans g⟩)
def Vis.fresh {a w1} (c:Vis a w1) {p} (d:a.heap.size<=p.block) (b):Vis a (w1.setCell p b):=VisF.put c (.inr d) b
def Vis.alloc {a w1} (b:Vis a w1) (c:Obj):Vis a (w1.alloc c):=b.trans (kb (bR.alloc nL _))
def Vis.below {a w1 b} (c:Vis a w1) (d:Below w1.heap.size w1 b):Vis a b:=c.trans (kb d)
def VisF.d {e g i b d f} (l:VisF e g i) (c:Bk g b d f) (m:d≠223) (n:d≠181) (o:¬e b):Bk i b d f:=by
 rcases l.block b c.lt o with a |⟨j,p,a,k⟩|⟨j,p,a,k⟩;exact a.trans c;exact absurd (aU c a).1 m;exact absurd (aU c a).1 n
def VisF.tree {e l m b f g i k} (o:VisF e l m) (c:Bk l b 223 #[f,g,i,(k:Int)]) (p:¬e b):∃d,Bk m b 223 #[f,g,i,(d:Int)]:=by
 rcases o.block b c.lt p with a |⟨n,d,a,j⟩|⟨n,d,a,j⟩;exact ⟨k,a.trans c⟩;obtain ⟨_,rfl⟩:=aU c a;exact ⟨d,j⟩;exact absurd (aU c a).1 dC
def VisF.bu {g j f b e} (l:VisF g j f) (c:Bk j b 181 e) (m:¬g b):Bk f b 181 e∨∃d,Bk f b 181 (e.setIfInBounds 10 (.int .i64 d)):=by
 rcases l.block b c.lt m with a |⟨k,d,a,i⟩|⟨k,d,a,i⟩;exact .inl (a.trans c);exact absurd (aU c a).1 dC;obtain ⟨_,rfl⟩:=aU c a;exact .inr ⟨d,i⟩
def Vis.d {d e c a b} (f:Vis d e) (j:Bk d c a b) (g:a≠223) (i:a≠181):Bk e c a b:=VisF.d f j g i (λk=>k)
def Vis.tree {e f d a b c j} (g:Vis e f) (i:Bk e d 223 #[a,b,c,(j:Int)]):∃k,Bk f d 223 #[a,b,c,(k:Int)]:=VisF.tree g i (λl=>l)
def Vis.bu {d c b a} (e:Vis d c) (f:Bk d b 181 a):Bk c b 181 a∨∃g,Bk c b 181 (a.setIfInBounds 10 (.int .i64 g)):=VisF.bu e f (λi=>i)
def VisK (c:Nat->Prop) (a b:World):Prop:=Vis a b/\Keep c a b
def VisK.refl (b a):VisK b a a:=⟨Vis.refl a,ke b a⟩
def vR {b a}:VisK b a a:=VisK.refl b a
def VisK.trans {F c w1 d} (a:VisK F c w1) (b:VisK F w1 d):VisK F c d:=⟨a.1.trans b.1,a.2.trans b.2⟩
def VisK.below {F c w1 d} (a:VisK F c w1) (b:Below w1.heap.size w1 d):VisK F c d:=⟨a.1.trans (kb b),a.2.trans (kF b)⟩
def VisK.j {F a b} (c:Below a.heap.size a b):VisK F a b:=(VisK.refl F a).below c
abbrev kc:=@VisK.j
def VisK.alloc {a b w1} (c:VisK a b w1) (d:Obj):VisK a b (w1.alloc d):=c.below (bR.alloc nL _)
def VisK.E {c a e} (f:Bk c a 223 e) (d):VisK (λb=>b=a) c (c.setCell ⟨a,3,none⟩ (.int .i64 d)):=⟨Vis.E f d,ka (F:=λb=>b=a) (ke _ _) (p:=⟨a,3,none⟩) (.inl rfl) _⟩
def VisK.mono {F G c d} (b:VisK F c d) (e:∀a,F a->G a):VisK G c d:=⟨b.1,b.2.mono λa _=>e a⟩
def Vis.own {f g b a d c e i} (n:Vis f g) (j:f.ownsRow b a d e c i) (k:a≠223) (l:a≠181):g.ownsRow b a d e c i:=
 aC j λo p _ m=>n.d m k l
def Vis.made {g i c a f e d b j} (o:Vis g i) (k:Made g c a f b e d j) (l:a≠223) (m:a≠181):Made i c a f b e d j:=
 wN k λp q n=>o.d n l m
def RdT (k:World) (j:TypeId) (i:Option Addr) (d:Nat) (g:List Value):Prop:=
 g.length=d/\(0 < d->∃a e b,i=some ⟨a,e,none⟩/\Bk k a j b/\∀c f,g[c]?=some f->b[e+c]?=some f)
def RdT.rd {a o b e f} (c:RdT a o b e f):Rd a a.heap.size 1 b e f:=by
 refine ⟨by rw [c.1,zBl],λk=>?_⟩;obtain ⟨g,n,q,i,d,j⟩:=c.2 k;exact ⟨g,n,i,d.lt,λm p l=>(d.cell _).trans (j m p l)⟩
def RdT.same {g w' c d f i} (e:RdT g c d f i) (n:∀a b,Bk g a c b->Bk w' a c b):RdT w' c d f i:=by
 refine ⟨e.1,λm=>?_⟩;obtain ⟨a,o,b,j,k,l⟩:=e.2 m;exact ⟨a,o,b,j,n a b k,l⟩
def sv (a:Nat):Value:=.int .i64 a
def gI:(prog.info? 3).map (λa=>(a.zero,a.size,a.bytes))=some (some (.int .i64 0),1,8):=by kernel_rfl
def aAp {d B a n c b} (i:Bk d a c b.toArray) (hB:B<=a) (f:b.length=n) (e:n<=maxLen):Made d B c 1 (some ⟨a,0,none⟩) n n b:=by
 have g:d.ownsRow B c 1 (.slice (some a) n n) n b:=⟨by omega,.inr ⟨a,n,b.toArray,rfl,hB,i,zAs _,e,by simp [f],by rw [zBl,zAg (by simp [f])]⟩⟩;exact ⟨g,Rd.s g,zAs _,e⟩
def aCa (a:Nat) (j:a<=1000000) (b):(Instr.makeSlice 119 (.int .i64 a) (.int .i64 a)).run prog b=.ok (.slice (some b.heap.size) a a) (b.alloc (.cells (Array.replicate a (.bool false)) 4)):=by
 obtain ⟨i,d,e,f,g⟩:=info_parts nE;have:=run_make (P:=prog) b 119 4 i (.bool false) underlying119 d e .i64 .i64 a a oM (zFF _) (by rw [g];omega) oM;rw [this,f];have c:madeCells #[false] a=Array.replicate a (.bool false):=by apply zFs;rw [toList_madeCells_one];simp
 simp only [Value.cells,zBr,zBl];rw [c]
end Go.Proofs.YtlghmcogeipojaaGreatDoor
