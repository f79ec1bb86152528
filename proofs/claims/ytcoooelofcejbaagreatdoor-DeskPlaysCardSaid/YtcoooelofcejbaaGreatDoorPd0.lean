/- Lemmas of the walk. Conditions: each its own. -/
import Derived.WalkKit
import Derived.WalkSpells
import Derived.WalkLawsBesides
import Derived.WalkSmall
import Derived.Lib.Hide
import Derived.Maps.AppendAt
import Derived.Deep.AppendLies
import Derived.Laws.OwnMore
import Derived.OneCell
import Derived.Laws.BytesArg
import Derived.Laws.IdiomStrings
import Derived.ProofKit
import Derived.OpenShut
import Derived.ShutString
import Derived.ChangeOld
import Derived.Carry
import Derived.Lib.SplitLaws
import Derived.Lib.Atoi
import Derived.Lib.Join
import Derived.Lib.ItoaNum
import Derived.Laws.BitsLemmas
import Derived.Laws.Bits64
import Derived.Orders
import Derived.BigQuiet
import Derived.Deep.QuietTactic
import Derived.Shelf.SlSortCmp.Kit1
import Derived.Deep.LoopGhost
import Derived.StillTailTactics
import Derived.Laws.EntriesVeiled
import Derived.Shelf.SlCmpFuncs.None
import Derived.Lib.AppendZeros
import Derived.Lib.LazyBuf
import Derived.Lib.SlBytesConst
import Derived.Lib.TrailingZeros
import Derived.Laws.AppendOwn
import Derived.Lib.SmallJoins
import Derived.LaidMore
import Derived.Lib.LaidTab
import Derived.Stop.Joined
import Derived.SevenTiedAt
import Derived.Lay
import Derived.LaidSub
import Derived.HandedShaped
import Derived.Shelf.Vars
import GoSem.Op.String
import Derived.Sort.OwnSortedInts
import Derived.Laws.Rows
import Derived.Laws.Tables
import Derived.Laws.CopyOwn
import Derived.Deep.WholeRow
import Derived.Laws.StructEq
import Derived.Deep.CutRange
import Derived.Shelf.Sort.Plain
import Derived.RangeFuncNested
import Derived.RangeFuncBound
import Derived.RangeFuncCalls
import Derived.RangeFuncLeaves
import Derived.Shelf.Abstract
import Derived.Shelf.RegionOpen
import Derived.OwnWalkIn
import Derived.TacticsInMore
import Derived.LoopNIn
import Derived.LoopIn
import Derived.RangeFuncFrom
import Derived.Laws.ResultCell
import Derived.Lib.AppendStr
import Derived.Test.YtcoooelofcejbaaGreatDoorProg
set_option linter.all false
set_option maxRecDepth 100000
set_option maxHeartbeats 1000000
namespace Go.Proofs.YtcoooelofcejbaaGreatDoor
open Tryz
section
open Go.RowKit
instance cP:Coe Nat Value:=⟨fun g=>.pointer (some ⟨g,0,none⟩)⟩
instance cI:Coe Int Value:=⟨fun z=>.int .i64 z⟩
instance cA:Coe Nat Addr:=⟨fun g=>⟨g,0,none⟩⟩
abbrev zAa:=@List.getElem?_eq_getElem
abbrev zAb:=@List.getD_eq_getElem?_getD
abbrev zAc:=@List.getElem?_eq_some_iff
abbrev zAd:=@List.mem_of_getElem?
abbrev zAe:=@List.forall_mem_cons
abbrev zAf:=@List.getElem?_map
abbrev zAg:=@List.take_of_length_le
abbrev zAh:=@Array.getElem?_eq_some_iff
abbrev zAi:=@List.length_append
abbrev zAj:=@List.length_take
abbrev zAk:=@Nat.le_trans
abbrev zAl:=@Nat.lt_of_lt_of_le
abbrev zAm:=@Array.getD_eq_getD_getElem?
abbrev zAn:=@List.getElem?_append_left
abbrev zAo:=@List.getElem?_append_right
abbrev zAp:=@Nat.zero_le
abbrev zAq:=@Array.getElem?_eq_getElem
abbrev zAr:=@List.pairwise_iff_getElem
abbrev zAs:=@Nat.le_refl
abbrev zAt:=@List.length_set
abbrev zAu:=@List.take_append_drop
abbrev zAv:=@List.take_add_one
abbrev zAw:=@List.length_drop
abbrev zAx:=@List.drop_eq_getElem_cons
abbrev zAy:=@List.mem_map
abbrev zAz:=@List.map_append
abbrev zBa:=@Nat.eq_zero_or_pos
abbrev zBb:=@Nat.add_sub_cancel
abbrev zBc:=@List.length_map
abbrev zBd:=@Bool.and_eq_true
abbrev zBe:=@Nat.lt_or_ge
abbrev zBf:=@List.all_eq_true
abbrev zBg:=@List.getElem?_eq_none
abbrev zBh:=@List.countP_le_length
abbrev zBi:=@Nat.zero_add
abbrev zBj:=@List.getElem_mem
abbrev zBk:=@List.eq_nil_of_length_eq_zero
abbrev zBl:=@Nat.mul_one
abbrev zBm:=@List.getElem?_set
abbrev zBn:=@List.countP_cons
abbrev zBo:=@List.mem_iff_getElem
abbrev zBp:=@Nat.pow_le_pow_right
abbrev zBq:=@Nat.add_zero
abbrev zBr:=@Int.toNat_natCast
abbrev zBs:=@List.getElem?_take
abbrev zBt:=@List.getElem?_drop
abbrev zBu:=@Nat.mod_eq_of_lt
abbrev zBv:=@List.count_le_length
abbrev zBw:=@if_neg
abbrev zBx:=@if_pos
abbrev zBy:=@decide_eq_false
abbrev zBz:=@decide_eq_true
abbrev zCa:=@decide_eq_true_eq
abbrev zCb:=@beq_eq_false_iff_ne
abbrev zCc:=@List.count_append
abbrev zCd:=@Array.getElem?_setIfInBounds
abbrev zCe:=@Array.getElem?_setIfInBounds_ne
abbrev zCf:=@List.getElem?_cons_succ
abbrev zCg:=@List.length_cons
abbrev zCh:=@List.map_map
abbrev zCi:=@List.length_range
abbrev zCj:=@List.mem_range
abbrev zCk:=@List.getElem?_range
abbrev zCl:=@Nat.lt_irrefl
abbrev zCm:=@Nat.le_of_lt
abbrev zCn:=@List.length_replicate
abbrev zCo:=@List.append_assoc
abbrev zCp:=@List.mem_append
abbrev zCq:=@List.foldl_cons
abbrev zCr:=@beq_iff_eq
abbrev zCs:=@Nat.not_lt
abbrev zCt:=@Nat.add_comm
abbrev zCu:=@Nat.min_eq_left
abbrev zCv:=@List.length_filter_le
abbrev zCw:=@List.mem_filter
abbrev zCx:=@List.getElem?_toArray
def eqx {α:Sort _} (a:α):∃b,a=b:=⟨_,rfl⟩
def tA0 {p:Prop} (h:p:=by repeat' (first|exact gW _ _ | exact iZ _|(refine zAe.2 ⟨?_,?_⟩)|(intro p hp;cases hp))):p:=h
def tA1 {p:Prop} (h:p:=by repeat' (first|exact nS _ _ | exact kQ _|(refine zAe.2 ⟨?_,?_⟩)|(intro p hp;cases hp))):p:=h
def gD {w w':World} (a:Below w.drew.heap.size w.drew w'):Below w.heap.size w w':=⟨a.os,a.tape,a.output,a.size,a.block⟩
def oM {p:Prop} (h:p:=by omega):p:=h
def dC {p:Prop} (h:p:=by decide):p:=h
def kR {p:Prop} (h:p:=by kernel_rfl):p:=h
def nL {n:Nat}:n<=n:=zAs n
def bR {B:Nat} {w:World}:Below B w w:=Below.refl B w
def zq1 {α β:Type} {a:β->α->β} {c:β} {b:α} {d:List α}:(b::d).foldl a c=d.foldl a (a c b):=rfl
def zq2 {α β:Type} {b:β->α->β} {a:β}:([]:List α).foldl b a=a:=rfl
def zq3 {α:Type} {c:List α} {b:Nat} {a:α}:c.toArray.setIfInBounds b a=(c.set b a).toArray:=List.setIfInBounds_toArray c b a
def zq4 {α:Type} {b:List α} {c a:α}:(c::b).set 0 a=a::b:=rfl
def zq5 {α:Type} {c:List α} {a b:α} {n:Nat}:(a::c).set (n+1) b=a::c.set n b:=rfl
def lhd {P:Prop} (a:P):Hid P:=Lib.hid a
def hqq2 {a b:Prop} (c:a) (d:b):Hid a/\Hid b:=⟨lhd c,lhd d⟩
def hqq3 {a b c:Prop} (d:a) (f:b) (i:c):Hid a/\Hid b/\Hid c:=⟨lhd d,lhd f,lhd i⟩
def hqq4 {a b c d:Prop} (f:a) (i:b) (j:c) (k:d):Hid a/\Hid b/\Hid c/\Hid d:=⟨lhd f,lhd i,lhd j,lhd k⟩
def hqq5 {a b c d f:Prop} (i:a) (j:b) (k:c) (l:d) (m:f):Hid a/\Hid b/\Hid c/\Hid d/\Hid f:=⟨lhd i,lhd j,lhd k,lhd l,lhd m⟩
def hqq6 {a b c d f i:Prop} (j:a) (k:b) (l:c) (m:d) (o:f) (p:i):Hid a/\Hid b/\Hid c/\Hid d/\Hid f/\Hid i:=⟨lhd j,lhd k,lhd l,lhd m,lhd o,lhd p⟩
def hqq7 {a b c d f i j:Prop} (k:a) (l:b) (m:c) (o:d) (p:f) (q:i) (r:j):Hid a/\Hid b/\Hid c/\Hid d/\Hid f/\Hid i/\Hid j:=⟨lhd k,lhd l,lhd m,lhd o,lhd p,lhd q,lhd r⟩
def hqq8 {a b c d f i j k:Prop} (l:a) (m:b) (o:c) (p:d) (q:f) (r:i) (s:j) (u:k):Hid a/\Hid b/\Hid c/\Hid d/\Hid f/\Hid i/\Hid j/\Hid k:=⟨lhd l,lhd m,lhd o,lhd p,lhd q,lhd r,lhd s,lhd u⟩
def hqq9 {a b c d f i j k l:Prop} (m:a) (o:b) (p:c) (q:d) (r:f) (s:i) (u:j) (v:k) (x:l):Hid a/\Hid b/\Hid c/\Hid d/\Hid f/\Hid i/\Hid j/\Hid k/\Hid l:=⟨lhd m,lhd o,lhd p,lhd q,lhd r,lhd s,lhd u,lhd v,lhd x⟩
def eS {a b:Int} (c:a=b):Ending.returned (.int .i64 a)=Ending.returned (.int .i64 b):=by rw [c]
def qO {a b:Bool} (c:a=b):Ending.returned (.bool a)=Ending.returned (.bool b):=by rw [c]
def dV {a b:Int} (c:a=b):Value.int .i64 a=Value.int .i64 b:=by rw [c]
def jB {c:IntKind} {a b:Int} (d:a=b):Value.int c a=Value.int c b:=by rw [d]
def bv (a:UInt8):Value:=.int .u8 (a.toNat:Int)
def iv (n:Int):Value:=.int .i64 n
def lS (c:List UInt8):∀a∈c.map bv,a.oneCell'=true:=by
 intro a b;obtain ⟨d,_,rfl⟩:=zAy.1 b;rfl
def rO (a c b:Nat):(⟨a,c,none⟩:Addr).add b=⟨a,c+b,none⟩:=by
 unfold Addr.add;split <;> simp_all
def Rd (w:World) (B sz:Nat) (A:Option Addr) (n:Nat) (xs:List Value):Prop:=
 xs.length=n*sz/\(0 < n->∃a c,A=some ⟨a,c,none⟩/\a < B/\∀b d,xs[b]?=some d->w.cell? ⟨a,c+b,none⟩=some d)
section
variable {w w' : World} {B B' sz n : Nat} {A : Option Addr} {xs : List Value}
def Rd.nil (w:World) (B sz:Nat) (A:Option Addr):Rd w B sz A 0 []:=⟨by simp,fun a=>absurd a oM⟩
def Rd.get {k:Nat} (c:Rd w B 1 A n xs) (l:k < n):∃a b f,A=some ⟨a,b,none⟩/\a < B/\xs[k]?=some f/\w.cell? ⟨a,b+k,none⟩=some f:=by
 obtain ⟨a,b,e,i,j⟩:=c.2 oM;have d:k < xs.length:=by have:=c.1;omega
 exact ⟨a,b,xs[k],e,i,zAa d,j k _ (zAa d)⟩
def Rd.keep (b:Rd w B sz A n xs) (i:∀a:Addr,a.block < B->w'.cell? a=w.cell? a):Rd w' B sz A n xs:=
 ⟨b.1,fun j=>by
   obtain ⟨d,m,e,c,f⟩:=b.2 j;exact ⟨d,m,e,c,fun l o k=>(i _ c).trans (f l o k)⟩⟩
def Rd.mono (a:Rd w B sz A n xs) (i:B<=B'):Rd w B' sz A n xs:=
 ⟨a.1,fun d=>by
   obtain ⟨b,f,e,j,c⟩:=a.2 d;exact ⟨b,f,e,by omega,c⟩⟩
def Rd.below (a:Rd w B sz A n xs) (b:Below B w w'):Rd w' B sz A n xs:=a.keep fun _ c=>b.cell c
def Rd.drew (a:Rd w B sz A n xs):Rd w.drew B sz A n xs:=a
def Rd.drewN (a:Rd w B sz A n xs) (b:Nat):Rd (w.drewN b) B sz A n xs:=a
def Rd.alloc (b:Rd w B sz A n xs) (c:B<=w.heap.size) (a:Obj):Rd (w.alloc a) B sz A n xs:=b.below (bR.alloc c a)
def Rd.of_own {b:Nat} {e:TypeId} {c:Nat} (a:w.ownsRow b e sz (.slice A n c) n xs):Rd w w.heap.size sz A n xs:=by
 refine ⟨a.1,fun i=>?_⟩;obtain ⟨g,o,k,_,f⟩:=a.form i;have d:A=some ⟨g,0,none⟩:=by injection k
 subst d;refine ⟨g,0,rfl,f,fun l m j=>?_⟩;have:=a.cells (g:=g) rfl l m j;rwa [rO] at this
def gO (A:Option Addr) (b a sz:Nat):Option Addr:=if b=a then A else A.map (·.add (a*sz))
def Rd.cut (a:Rd w B sz A n xs) {k cap:Nat} (m:k<=n) (l:n<=cap):Rd w B sz (gO A cap k sz) (n - k) (xs.drop (k*sz)):=by
 refine ⟨by rw [zAw,a.1,Nat.sub_mul],fun o=>?_⟩;obtain ⟨b,i,rfl,c,d⟩:=a.2 oM;rw [gO,zBw oM];refine ⟨b,i+k*sz,by simp [rO],c,fun p j f=>?_⟩;rw [Nat.add_assoc];exact d _ j (by rw [<-f,zBt])
def Rd.cut_hi (b:Rd w B sz A n xs) {k:Nat} (i:k<=n):Rd w B sz A k (xs.take (k*sz)):=by
 have o:k*sz<=n*sz:=Nat.mul_le_mul_right _ i;refine ⟨by rw [zAj,b.1];omega,fun p=>?_⟩;obtain ⟨c,l,rfl,d,f⟩:=b.2 oM;refine ⟨c,l,rfl,d,fun j m a=>f j m ?_⟩;rw [zBs] at a;split at a;exact a
 · cases a
def Rd.cut_hi0 (c:Rd w B sz A n xs) {k cap:Nat} (i:k<=n):Rd w B sz (gO A cap 0 sz) k (xs.take (k*sz)):=by
 have a:=c.cut_hi i;refine ⟨a.1,fun j=>?_⟩;obtain ⟨b,l,rfl,d,f⟩:=a.2 j;refine ⟨b,l,?_,d,f⟩;unfold gO;split <;> simp [rO]
end
section
variable {P : Program} (t e : TypeId) (sz : Nat) (ht : P.underlying t = some (.slice e)) (hs : ∀ w, (sizeOf e).run P w = .ok sz w)
include ht hs
def vM (A:Option Addr) (n b a:Nat) (f:a<=n) (w:World):
 (Instr.sliceAt t (.slice A n b) (some (.int .i64 (a:Int))) none none).run P w=.ok (.slice (gO A b a sz) (n - a) (b - a)) w:=by
 have c:P.elem t=e:=by simp [Program.elem,ht]
 have d:P.underlying t=some (.slice (P.elem t)):=by rw [c];exact ht
 rw [run_sliceAt_slice (h:=d),run_slice_l (ht:=d) (h0:=oM) (h1:=oM),c,hs];simp [Result.andThen,sliced,gO]
def aDG (A:Option Addr) (n a b:Nat) (f:b<=a) (w:World):
 (Instr.sliceAt t (.slice A n a) none (some (.int .i64 (b:Int))) none).run P w=.ok (.slice (gO A a 0 sz) b a) w:=by
 have c:P.elem t=e:=by simp [Program.elem,ht]
 have d:P.underlying t=some (.slice (P.elem t)):=by rw [c];exact ht
 rw [run_sliceAt_slice (h:=d),run_slice_h (ht:=d) (h0:=oM) (h2:=oM),c,hs];simp [Result.andThen,sliced,gO]
def aAM (A:Option Addr) (n c b a:Nat) (j:b<=a) (i:a<=c) (w:World):
 (Instr.sliceAt t (.slice A n c) (some (.int .i64 (b:Int))) (some (.int .i64 (a:Int))) none).run P w=.ok (.slice (gO A c b sz) (a - b) (c - b)) w:=by
 have d:P.elem t=e:=by simp [Program.elem,ht]
 have f:P.underlying t=some (.slice (P.elem t)):=by rw [d];exact ht
 rw [run_sliceAt_slice (h:=f),run_slice_lh (ht:=f) (h0:=oM) (h1:=oM) (h2:=oM),d,hs];simp [Result.andThen,sliced,gO]
end
def aQ {w:World} {c:Nat} {e:TypeId} {sz:Nat} {f:Value} {n:Nat} {xs:List Value} (b:w.ownsRow c e sz f n xs):
 ∃A d,f=.slice A n d/\n<=d/\(∀a,A=some a->c<=a.block/\a.block < w.heap.size):=by
 rcases b.2 with ⟨rfl,rfl⟩|⟨g,i,m,rfl,j,k,l,_⟩;exact ⟨none,0,rfl,zAs _,fun a b=>by cases b⟩
 · exact ⟨_,i,rfl,l,fun a b=>by cases b;exact ⟨j,(zAh.1 k).1⟩⟩
def Bk (w:World) (g:Nat) (t:TypeId) (cs:Array Value):Prop:=w.heap[g]?=some (.cells cs t (0,0))
section
variable {w w' : World} {g : Nat} {t : TypeId} {cs : Array Value}
def Bk.lt (a:Bk w g t cs):g < w.heap.size:=lt_of_block a
def Bk.cell (b:Bk w g t cs) (a:Nat):w.cell? ⟨g,a,none⟩=cs[a]?:=cell_of_row w g a cs t (0,0) b
def Bk.frozen (b:Bk w g t cs) (a:Nat):w.frozen? ⟨g,a,none⟩=false:=frozen_of_row w g a cs t b
def Bk.new (w:World) (t:TypeId) (cs:Array Value):Bk (w.alloc (.cells cs t)) w.heap.size t cs:=heap_alloc_new w _
def Bk.drew (a:Bk w g t cs):Bk w.drew g t cs:=a
def Bk.drewN (a:Bk w g t cs) (n:Nat):Bk (w.drewN n) g t cs:=a
def Bk.alloc (a:Bk w g t cs) (b:Obj):Bk (w.alloc b) g t cs:=(Below.heap_alloc w b g a.lt).trans a
def Bk.set (c:Bk w g t cs) (a:Nat) (b:Value):Bk (w.setCell ⟨g,a,none⟩ b) g t (cs.setIfInBounds a b):=heap_setCell_same w g a cs t b c
def Bk.far (b:Bk w g t cs) {p:Addr} (c:g≠p.block) (a:Value):Bk (w.setCell p a) g t cs:=(heap_setCell_other w p g a c).trans b
def Bk.below {B:Nat} (a:Bk w g t cs) (b:Below B w w') (c:g < B):Bk w' g t cs:=(b.block g c).trans a
def Bk.grown {row:Option Nat} (a:Bk w g t cs) (b:w.grownBy w' row) (c:some g≠row):Bk w' g t cs:=(b.block g a.lt c).trans a
def Bk.ne {b:Nat} {d:TypeId} {f:Array Value} (c:Bk w g t cs) (a:Bk w b d f) (i:t≠d):g≠b:=by
 rintro rfl;unfold Bk at c a;rw [c] at a;injection a with a;injection a with _ ht;exact i ht
end
structure Keep (F:Nat->Prop) (w w':World):Prop where
 os:w'.os=w.os
 tape:w'.tape=w.tape
 output:w'.output=w.output
 size:w.heap.size<=w'.heap.size
 block:∀k,k < w.heap.size->¬F k->w'.heap[k]?=w.heap[k]?
def kD {F:Nat->Prop} {w w':World} (a:Keep F w.drew w'):Keep F w w':=⟨a.os,a.tape,a.output,a.size,a.block⟩
section
variable {F G : Nat -> Prop} {w w1 w' : World}
def Keep.refl (F:Nat->Prop) (w:World):Keep F w w:=⟨rfl,rfl,rfl,zAs _,fun _ _ _=>rfl⟩
def Keep.trans (a:Keep F w w1) (b:Keep F w1 w'):Keep F w w':=
 ⟨b.os.trans a.os,b.tape.trans a.tape,b.output.trans a.output,zAk a.size b.size,fun f c d=>(b.block f (zAl c a.size) d).trans (a.block f c d)⟩
def Keep.trans' (a:Keep F w w1) (b:Keep G w1 w') (j:∀c,c < w.heap.size->G c->F c):Keep F w w':=
 ⟨b.os.trans a.os,b.tape.trans a.tape,b.output.trans a.output,zAk a.size b.size,fun f d i=>(b.block f (zAl d a.size) (fun g=>i (j f d g))).trans (a.block f d i)⟩
def Keep.mono (a:Keep F w w') (i:∀b,b < w.heap.size->F b->G b):Keep G w w':=⟨a.os,a.tape,a.output,a.size,fun d c j=>a.block d c (fun f=>j (i d c f))⟩
def Keep.of_below (a:Below w.heap.size w w'):Keep F w w':=⟨a.os,a.tape,a.output,a.size,fun c b _=>a.block c b⟩
def Keep.to_below (a:Keep F w w') {B:Nat} (i:B<=w.heap.size) (d:∀b,b < B->¬F b):Below B w w':=⟨a.os,a.tape,a.output,a.size,fun c f=>a.block c oM (d c f)⟩
def Keep.setCell (a:Keep F w w1) {p:Addr} (b:F p.block∨w.heap.size<=p.block) (f:Value):Keep F w (w1.setCell p f):=
 ⟨a.os,a.tape,a.output,by simpa [World.setCell] using a.size,fun d i c=>(heap_setCell_other w1 p d f (by
  rintro rfl;rcases b with b | b;exact c b
  · omega)).trans (a.block d i c)⟩
def Keep.alloc (a:Keep F w w1) (d:Obj):Keep F w (w1.alloc d):=
 ⟨a.os,a.tape,a.output,zAk a.size (by simp),fun c b f=>(Below.heap_alloc w1 d c (zAl b a.size)).trans (a.block c b f)⟩
def Keep.drew (a:Keep F w w1):Keep F w w1.drew:=⟨a.os,a.tape,a.output,a.size,a.block⟩
def Keep.drewN (a:Keep F w w1) (n:Nat):Keep F w (w1.drewN n):=⟨a.os,a.tape,a.output,a.size,a.block⟩
def Keep.grown (a:Keep F w w1) {row:Option Nat} (b:w1.grownBy w' row) (k:∀d,row=some d->F d∨w.heap.size<=d):Keep F w w':=
 ⟨b.os.trans a.os,b.tape.trans a.tape,b.output.trans a.output,zAk a.size b.size,fun c i j=>
  (b.block c (zAl i a.size) (fun e=>by rcases k c e.symm with f | f;exact j f;omega)).trans (a.block c i j)⟩
def Keep.cell (a:Keep F w w') {p:Addr} (c:p.block < w.heap.size) (b:¬F p.block):w'.cell? p=w.cell? p:=World.cell?_of_block (a.block p.block c b)
def Keep.bk {g:Nat} {t:TypeId} {cs:Array Value} (b:Keep F w w') (a:Bk w g t cs) (c:¬F g):Bk w' g t cs:=(b.block g a.lt c).trans a
def Keep.rd {B sz n:Nat} {A:Option Addr} {xs:List Value} (b:Keep F w w') (f:Rd w B sz A n xs) (i:B<=w.heap.size) (c:∀a,a < B->¬F a):Rd w' B sz A n xs:=
 f.keep fun j d=>b.cell oM (c _ d)
end
section
variable {P : Program} (w : World)
def qM (c:Nat) (t k e:TypeId) (j:TypeInfo) (sz:Nat) (ht:P.underlying t=some (.slice e)) (b:P.info? e=some j)
 (a:Value) (n:Nat) (xs:List Value) (i:w.ownsRow c e sz a n xs) (d:Nat):(Builtin.append_ #[t,t] k #[a,.slice none 0 d]).run P w=.ok a w:=by
 rcases i.2 with ⟨rfl,rfl⟩|⟨g,l,m,rfl,_,_,f,_⟩
 · simp [Builtin.append_,run_underlying ht,sizeOf,typeInfo,b,Builtin.lenOf,Builtin.firstCells]
 · simp [Builtin.append_,run_underlying ht,sizeOf,typeInfo,b,Builtin.lenOf,Builtin.firstCells,f,storeCells]
def yE (k:Nat) (t u e:TypeId) (f:TypeInfo) (v:Value) (sz p:Nat) (ht:P.underlying t=some (.slice e)) (y:P.info? e=some f) (U:f.zero=some v)
 (S:f.size=sz) (K:f.bytes=p) (V:v.cells.size=sz) (T:0 < sz)
 (d:Value) (n:Nat) (xs:List Value) (s:w.ownsRow k e sz d n xs)
 (B:Nat) (A:Option Addr) (a q:Nat) (c:List Value) (m:Rd w B sz A a c) (C:∀i∈c,i.oneCell'=true)
 (I:n+a<=maxLen) (L:(n+a)*p<=140737488355328) (J:k<=w.heap.size):
 ∃j w',(Builtin.append_ #[t,t] u #[d,.slice A a q]).run P w=.ok j w'/\w'.ownsRow k e sz j (n+a) (xs++c)/\w.grownBy w' d.ownBlock/\
  (j.ownBlock=d.ownBlock∨j.ownBlock=some w.heap.size):=by
 rcases A with _ | x
 · have O:a=0:=by
    rcases zBa a with b | b;exact b
    · obtain ⟨_,_,l,_⟩:=m.2 b;cases l
   subst O;have r:c= []:=zBk (by simpa using m.1);subst r;exact ⟨d,w,qM w k t u e f sz ht y d n xs s q,by simpa using s,World.grownBy.refl w _,.inl rfl⟩
 · have N:∀o i,c[o]?=some i->w.cell? (x.add o)=some i:=by
    intro o i z;rcases zBa a with b | b
    · subst b;have r:c= []:=zBk (by simpa using m.1);subst r;simp at z
    obtain ⟨W,X,l,_,M⟩:=m.2 b;injection l with l;subst l;rw [rO];exact M o i z
   obtain ⟨j,w',R,D,E,_,H⟩:=run_append_own_at (P:=P) w k t u e f v sz p ht y U S K V T d n xs s x a q c m.1 N C I L J;exact ⟨j,w',R,D,E,H⟩
def fY {k:Oper} {f:Act} {o:Act->World->Prop} {Q:Exit->Act->World->Prop} (q r:Operand) (t:TypeId)
 (I:k.op=.call { callee:=.builtin .append,args:=#[q,r],argTypes:=#[t,t] })
 (i:Nat) (e:TypeId) (c:TypeInfo) (m:Value) (sz l:Nat) (ht:P.underlying t=some (.slice e)) (H:P.info? e=some c) (R:c.zero=some m)
 (M:c.size=sz) (D:c.bytes=l) (S:m.cells.size=sz) (N:0 < sz)
 (d:Value) (n:Nat) (xs:List Value) (hs:f.eval q=d) (J:w.ownsRow i e sz d n xs)
 (B:Nat) (A:Option Addr) (a p:Nat) (j:List Value) (O:f.eval r=.slice A a p) (K:Rd w B sz A a j) (u:∀T∈j,T.oneCell'=true)
 (z:n+a<=maxLen) (E:(n+a)*l<=140737488355328) (C:i<=w.heap.size)
 (s:∀b w',w'.ownsRow i e sz b (n+a) (xs++j)->w.grownBy w' d.ownBlock->(b.ownBlock=d.ownBlock∨b.ownBlock=some w.heap.size)->o (f.put k.dst b) w'):k.wp P f w o Q:=by
 obtain ⟨b,w',L,v,x,y⟩:=yE (P:=P) w i t k.type e c m sz l ht H R M D S N d n xs J B A a p j K u z E C;unfold Oper.wp execOp;simp only [I,resolve,invoke,builtin,Sem.run_bind,Sem.run_pure,Result.andThen_ok,List.map_toArray,List.map_cons,List.map_nil,hs,O,L];exact s b w' v x y
def bK {ops:Array Oper} {r:List Oper} {k:Oper} {f:Act} {Q:Exit->Act->World->Prop} (I:k.guard=none) (m o:Operand) (t:TypeId)
 (K:k.op=.call { callee:=.builtin .append,args:=#[m,o],argTypes:=#[t,t] })
 (i:Nat) (e:TypeId) (c:TypeInfo) (p:Value) (sz l:Nat) (ht:P.underlying t=some (.slice e)) (J:P.info? e=some c) (S:c.zero=some p)
 (N:c.size=sz) (E:c.bytes=l) (T:p.cells.size=sz) (O:0 < sz)
 (d:Value) (n:Nat) (xs:List Value) (hs:f.eval m=d) (L:w.ownsRow i e sz d n xs)
 (B:Nat) (A:Option Addr) (a q:Nat) (j:List Value) (R:f.eval o=.slice A a q) (M:Rd w B sz A a j) (u:∀U∈j,U.oneCell'=true)
 (z:n+a<=maxLen) (H:(n+a)*l<=140737488355328) (D:i<=w.heap.size)
 (s:∀b w',w'.ownsRow i e sz b (n+a) (xs++j)->w.grownBy w' d.ownBlock->(b.ownBlock=d.ownBlock∨b.ownBlock=some w.heap.size)->wpList P ops Q r (f.put k.dst b) w'):wpList P ops Q (k::r) f w:=
 wpList_plain I fun _ C=>fY w m o t K i e c p sz l ht J S N E T O d n xs hs L B A a q j R M u z H D fun b w' v x y=>C _ _ (s b w' v x y)
end
def Rd.new_ (w:World) (e:TypeId) (sz:Nat) (cs:Array Value) (hs:cs.size=sz):Rd (w.alloc (.cells cs e)) (w.heap.size+1) sz (some ⟨w.heap.size,0,none⟩) 1 cs.toList:=by
 refine ⟨by simp [hs],fun _=>⟨_,0,rfl,by omega,fun b c a=>?_⟩⟩;rw [(Bk.new w e cs).cell];simpa using a
def Rd.made (w:World) (e:TypeId) (sz n:Nat) (cs:Array Value) (hs:cs.size=n*sz):Rd (w.alloc (.cells cs e)) (w.alloc (.cells cs e)).heap.size sz (some ⟨w.heap.size,0,none⟩) n cs.toList:=by
 refine ⟨by simp [hs],fun _=>⟨_,0,rfl,by simp,fun b c a=>?_⟩⟩;rw [(Bk.new w e cs).cell];simpa using a
def Rd.made' (w:World) (e:TypeId) (sz n:Nat) (cs:Array Value) (g:Nat) (hs:cs.size=n*sz) (a:g=w.heap.size):Rd (w.alloc (.cells cs e)) (w.alloc (.cells cs e)).heap.size sz (some ⟨g,0,none⟩) n cs.toList:=by
 subst a;exact Rd.made w e sz n cs hs
structure Made (w:World) (B:Nat) (e:TypeId) (sz:Nat) (A:Option Addr) (n c:Nat) (xs:List Value):Prop where
 own:w.ownsRow B e sz (.slice A n c) n xs
 rd:Rd w w.heap.size sz A n xs
 cap:n<=c
 max:c<=maxLen
def aR {w:World} {B:Nat} {e:TypeId} {sz:Nat} {c:Value} {n:Nat} {xs:List Value} (a:w.ownsRow B e sz c n xs):∃A b,c=.slice A n b/\Made w B e sz A n b xs:=by
 rcases a.2 with ⟨rfl,rfl⟩|⟨g,d,j,rfl,k,l,i,f,_⟩;exact ⟨none,0,rfl,a,Rd.of_own a,zAs _,zAp _⟩;exact ⟨_,d,rfl,a,Rd.of_own a,i,f⟩
def Made.below {w w':World} {B:Nat} {e:TypeId} {sz:Nat} {A:Option Addr} {n c:Nat} {xs:List Value} (b:Made w B e sz A n c xs) (a:Below w.heap.size w w'):Made w' B e sz A n c xs:=
 ⟨b.own.kept (row:=none) ⟨a.os,a.tape,a.output,a.size,fun f d _=>a.block f d⟩ (by cases A <;> simp [Value.ownBlock]),(b.rd.below a).mono a.size,b.cap,b.max⟩
def Made.len {w:World} {B:Nat} {e:TypeId} {A:Option Addr} {n a:Nat} {xs:List Value} (b:Made w B e 1 A n a xs):xs.length=n:=by have:=b.rd.1;omega
def zS (w:World) (e:TypeId) (sz:Nat):(w.alloc (.cells #[] e)).ownsRow w.heap.size e sz (.slice (some w.heap.size) 0 0) 0 []:=
 World.ownsRow_made w #[] 0 nL (zAp _) (by simp)
def aM {w w':World} {B:Nat} {e:TypeId} {sz n:Nat} {b:Value} {xs:List Value} (c:w.ownsRow B e sz b n xs) (a:Below w.heap.size w w'):w'.ownsRow B e sz b n xs:=
 c.kept (row:=none) ⟨a.os,a.tape,a.output,a.size,fun f d _=>a.block f d⟩ (by cases b.ownBlock <;> simp)
def aS {w:World} {b:Nat} {e t:TypeId} {sz n g:Nat} {a:Value} {xs:List Value} {cs:Array Value} (d:w.ownsRow b e sz a n xs) (i:Bk w g t cs) (k:e≠t):some g≠a.ownBlock:=by
 rcases d.2 with ⟨rfl,_⟩|⟨c,l,m,rfl,_,j,_⟩
 · simp [Value.ownBlock]
 intro f;have:g=c:=(by simpa [Value.ownBlock] using f);subst this;exact Bk.ne (t:=e) j i k rfl
def aDR {w:World} {b1 b2:Nat} {b c:TypeId} {o p l m:Nat} {a d:Value} {q r:List Value} (f:w.ownsRow b1 b o a l q) (i:w.ownsRow b2 c p d m r) (k:c≠b):a.ownBlock=none∨a.ownBlock≠d.ownBlock:=by
 rcases f.2 with ⟨rfl,_⟩|⟨g,s,u,rfl,_,j,_⟩;exact .inl rfl;exact .inr (aS i j k)
def cD {w:World} {B B':Nat} {e:TypeId} {sz n:Nat} {c:Value} {xs:List Value} (b:w.ownsRow B e sz c n xs) (k:B'<=B):w.ownsRow B' e sz c n xs:=by
 refine ⟨b.1,?_⟩;rcases b.2 with a |⟨g,d,f,a,i,j⟩;exact .inl a;exact .inr ⟨g,d,f,a,zAk k i,j⟩
def wM {w w':World} {c:Obj} {row:Option Nat} (a:(w.alloc c).grownBy w' row):w.grownBy w' row:=
 ⟨a.os,a.tape,a.output,zAk (by simp) a.size,fun b d f=>(a.block b (by simp;omega) f).trans (Below.heap_alloc w c b d)⟩
def bP {P:Program} {w:World} {ops:Array Oper} {p:List Oper} {i:Oper} {d:Act} {Q:Exit->Act->World->Prop} (cs:Array Value) (C:i.guard=none) (k l:Operand) (t:TypeId)
 (E:i.op=.call { callee:=.builtin .append,args:=#[k,l],argTypes:=#[t,t] })
 (f:Nat) (e:TypeId) (b:TypeInfo) (m:Value) (sz j:Nat) (ht:P.underlying t=some (.slice e)) (D:P.info? e=some b) (L:b.zero=some m)
 (I:b.size=sz) (x:b.bytes=j) (M:m.cells.size=sz) (J:0 < sz)
 (c:Value) (n:Nat) (xs:List Value) (hs:d.eval k=c) (H:w.ownsRow f e sz c n xs)
 (K:d.eval l=.slice (some w.heap.size) 1 1) (z:cs.size=sz) (r:∀N∈cs.toList,N.oneCell'=true)
 (v:n+1<=maxLen) (y:(n+1)*j<=140737488355328) (O:f<=w.heap.size)
 (q:∀a w',w'.ownsRow f e sz a (n+1) (xs++cs.toList)->w.grownBy w' c.ownBlock->w.heap.size < w'.heap.size->(a.ownBlock=c.ownBlock∨a.ownBlock=some (w.heap.size+1))->wpList P ops Q p (d.put i.dst a) w'):wpList P ops Q (i::p) d (w.alloc (.cells cs e)):=
 bK _ C k l t E f e b m sz j ht D L I x M J c n xs hs (H.alloc _) _ _ 1 1 cs.toList K (Rd.new_ w e sz cs z) r v y (by simp;omega)
  fun a w' s o u=>q a w' s (wM o) (by have:=o.size;simp at this;omega) (by simpa using u)
def aB1 {P:Program} (t:TypeId) (d:P.underlying t=some .string) (b:ByteArray) (a:Nat) (f:a < b.size) (c:World):
 (Instr.index t (.string b) (.int .i64 (a:Int))).run P c=.ok (.int .u8 ((b[a]'f).toNat:Int)) c:=by
 rw [run_index_string (h:=d),dif_pos oM];rfl
def vL {P:Program} {w:World} {B n f:Nat} {A:Option Addr} {a:List UInt8} (d b e:TypeId) (hs:P.underlying d=some (.slice e)) (k:P.underlying e=some (.int .u8)) (j:P.underlying b=some .string)
 (m:Rd w B 1 A n (a.map bv)):(convert d b (.slice A n f)).run P w=.ok (.string ⟨a.toArray⟩) w:=by
 have q:a.length=n:=by simpa using m.1
 subst q;rcases zBa a.length with i | i;have:a= []:=zBk i;subst this;have s:=run_loadCells_list (P:=P) w (A.getD ⟨0,0,none⟩) [] (fun l v c=>by simp at c);rcases A with _ | o;exact run_convert_bytes_nil w d e hs k _ _ b j;exact run_convert_bytes_back w d b e o f [] hs k j (fun l c=>by simp at c)
 · obtain ⟨r,u,rfl,_,p⟩:=m.2 i;refine run_convert_bytes_back w d b e _ f a hs k j fun l c=>?_;rw [rO];exact p l _ (by rw [zAf,zAa c];rfl)
def aDL {P:Program} {b:FuncId} {a:Array Value} {w:World} {n:Nat} {c:Value}
 (d:Calls P b a (w.drewN n) fun e w'=>e=.returned c/\w.drewN n=w'):Calls P b a (w.drewN n) fun e k=>e=.returned c/\∃j,k=w.drewN j:=
 d.mono fun _ _ ⟨f,i⟩=>⟨f,n,i.symm⟩
def bC {B:Nat} {w0 w w':World} {e:TypeId} {sz n:Nat} {a:Value} {xs:List Value} (b:Below B w0 w) (i:w.ownsRow B e sz a n xs) (d:w.grownBy w' a.ownBlock) (c:B<=w.heap.size):Below B w0 w':=
 b.grown d c fun j f=>(i.lt j f).1
end
section
open Go.RowKit Go
section
variable {P : Program} {ops : Array Oper} {Q : Exit -> Act -> World -> Prop} {md : Region.Mode}
def qT (md:Region.Mode) (ops:Array Oper) (a t:Nat):Bool:=
 (List.range ops.size).all fun b=>match ops[b]? with
    | some c=>c.dst != some t||b==a||c.after.toList.any (fun e=>Region.binds md e&&e.on==a)
    | none=>true
def jW (md:Region.Mode) (ops:Array Oper) (n:Nat):Bool:=
 (List.range ops.size).all fun a=>match ops[a]? with
    | some d=>d.after.toList.all (fun e=> !Region.binds md e||decide (e.on < a))&&
     (match d.dst with | some b=>decide (b < n)&&(List.range ops.size).all (fun c=>c==a||((ops[c]?).bind (·.dst))!= some b)| none=>true)
    | none=>true
def mY {n:Nat} (m:jW md ops n=true) {b:Nat} {i:Oper} (k:ops[b]?=some i):
 (∀e∈i.after,Region.binds md e=true->e.on < b)/\∀c,i.dst=some c->c < n/\∀a j,ops[a]?=some j->j.dst=some c->a=b:=by
 have s:b < ops.size:=(zAh.1 k).1;have d:=zBf.1 m b (zCj.2 s);simp only [k,zBd] at d;refine ⟨fun e q o=>?_,fun c p=>?_⟩;have:=zBf.1 d.1 e (Array.mem_toList_iff.2 q);simpa [o] using this;have f:=d.2;simp only [p,zBd,zCa] at f;refine ⟨f.1,fun a j l u=>?_⟩;have r:a < ops.size:=(zAh.1 l).1;have:=zBf.1 f.2 a (zCj.2 r);simp only [l,Option.bind_some,u,Bool.or_eq_true,zCr,bne_self_eq_false,Bool.false_eq_true,or_false] at this;exact this
def aJo {d t:Nat} (j:qT md ops d t=true) {b:Nat} {f:Oper} (i:ops[b]?=some f) (k:f.dst=some t):
 b=d∨∃e∈f.after,Region.binds md e=true/\e.on=d:=by
 have m:b < ops.size:=(zAh.1 i).1;have a:=zBf.1 j b (zCj.2 m);simp only [i,k,Bool.or_eq_true,zCr,bne_self_eq_false,Bool.false_eq_true,false_or] at a;rcases a with a | a;exact .inl a;obtain ⟨e,l,c⟩:=List.any_eq_true.1 a;simp only [zBd,zCr] at c;exact .inr ⟨e,Array.mem_toList_iff.1 l,c.1,c.2⟩
def gX {b:Array Bool} {a:Nat} (d:a < b.size) (c:Bool):(b.setIfInBounds a true).getD a c=true:=by simp [d]
def tS {f:Array Bool} {b a:Nat} (c:(f.setIfInBounds b true).getD a false=true):a=b∨f.getD a false=true:=by
 by_cases d:b=a;exact .inl d.symm;rw [getD_set_ne false d] at c;exact .inr c
def dX (P:Program) (ops:Array Oper) (Q:Exit->Act->World->Prop) (md:Region.Mode) (f:World->World->Prop) (i:Nat->Value->World->Prop) (b:Act) (o:World) (c:Nat) (k:Oper):Prop:=
 ∀a w,f o w->a.tmps.size=b.tmps.size->a.defers=b.defers->
    (∀t,qT md ops c t=true->a.tmps.getD t undef=b.tmps.getD t undef)->
    (∀e∈k.after,Region.binds md e=true->∀l j,ops[e.on]?=some l->l.dst=some j->i e.on (a.tmps.getD j undef) w)->
    ∀d:Act->World->Prop,(∀m w',f w w'->i c m w'->d (a.put k.dst m) w')->wpOp P ops Q c d a w
def qE {m:World->World->Prop} {o:Nat->Value->World->Prop} {r:Act} {q:World} {l:Nat} {a:Oper} (H:ops[l]?=some a) (D:a.guard=none)
 (v:∀c:Operand->Value,∀w,m q w->(∀d,c (.const d)=d)->(∀s,c (.func s)=.func (.func s) #[] #[])->(∀t,qT md ops l t=true->c (.tmp t)=r.eval (.tmp t))->
  (∀k i,a.after.toList.any (fun e=>Region.binds md e&&e.on==k)=true->((ops[k]?).bind (·.dst))=some i->o k (c (.tmp i)) w)->
  ∀b f,b.eval=c->(∀d w',m w w'->o l d w'->f (b.put a.dst d) w')->Oper.upon P a b f Q ((execOp c a).run P w)):dX P ops Q md m o r q l a:=by
 intro b w z N M I J f y;unfold wpOp;simp only [H];have K:Region.wanted a (yielded ops b.tmps)=true:=by unfold Region.wanted;rw [D]
 rw [zBx K];refine .inl (v b.eval w z (fun _=>rfl) (fun _=>rfl) (fun t ht=>I t ht) (fun k i E j=>?_) b f rfl y);obtain ⟨e,C,u⟩:=List.any_eq_true.1 E;simp only [zBd,zCr] at u;obtain ⟨x,rfl⟩:=u;cases p:ops[e.on]? with
 | none=>rw [p] at j;cases j
 | some L=>rw [p] at j;exact J e (Array.mem_toList_iff.1 C) x L i p j
def pF {m:World->World->Prop} {k:Nat->Value->World->Prop} {u:Act} {r:World} {q g a:Nat} {o:Bool} {c:Oper} (M:ops[q]?=some c) (J:c.guard=some (g,o))
 (z:((ops[g]?).bind (·.dst))=some a) (K:c.after.toList.any (fun e=>Region.binds md e&&e.on==g)=true)
 (O:∀f w,m r w->k g f w->f=.bool o)
 (D:∀j:Operand->Value,∀w,m r w->(∀f,j (.const f)=f)->(∀v,j (.func v)=.func (.func v) #[] #[])->(∀t,qT md ops q t=true->j (.tmp t)=u.eval (.tmp t))->
  (∀d a,c.after.toList.any (fun e=>Region.binds md e&&e.on==d)=true->((ops[d]?).bind (·.dst))=some a->k d (j (.tmp a)) w)->
  ∀b l,b.eval=j->(∀f w',m w w'->k q f w'->l (b.put c.dst f) w')->Oper.upon P c b l Q ((execOp j c).run P w)):dX P ops Q md m k u r q c:=by
 intro b w y V U N R l H;have C:∀d a,c.after.toList.any (fun e=>Region.binds md e&&e.on==d)=true->((ops[d]?).bind (·.dst))=some a->k d (b.eval (.tmp a)) w:=by
  intro d a L p;obtain ⟨e,I,x⟩:=List.any_eq_true.1 L;simp only [zBd,zCr] at x;obtain ⟨E,rfl⟩:=x;cases s:ops[e.on]? with
  | none=>rw [s] at p;cases p
  | some T=>rw [s] at p;exact R e (Array.mem_toList_iff.1 I) E T a s p
 have i:=O _ _ y (C g a K z);unfold wpOp;simp only [M];have S:Region.wanted c (yielded ops b.tmps)=true:=by
  unfold Region.wanted;rw [J];have:yielded ops b.tmps g=some o:=by
   unfold yielded;rw [z];change b.tmps.getD a undef=.bool o at i;rw [zAm] at i;rw [Option.bind_some];cases ht:b.tmps[a]? with
   | none=>rw [ht] at i;cases i
   | some W=>rw [ht] at i;simp only [Option.getD_some] at i;rw [i]
  simp only [this,beq_self_eq_true]
 rw [zBx S];exact .inl (D b.eval w y (fun _=>rfl) (fun _=>rfl) (fun t ht=>N t ht) C b l rfl H)
def aFH {j:World->World->Prop} {k:Nat->Value->World->Prop} {r:Act} {o:World} {m g i:Nat} {b:Bool} {d:Oper} (D:ops[m]?=some d) (z:d.guard=some (g, !b))
 (c:((ops[g]?).bind (·.dst))=some i) (C:d.after.toList.any (fun e=>Region.binds md e&&e.on==g)=true)
 (H:∀q w,j o w->k g q w->q=.bool b) (E:∀w,j w w)
 (s:∀w,k m undef w):dX P ops Q md j k r o m d:=by
 intro f w x O M N I L v;obtain ⟨e,y,p⟩:=List.any_eq_true.1 C;simp only [zBd,zCr] at p;obtain ⟨u,rfl⟩:=p;have a:f.tmps.getD i undef=.bool b:=by
  cases l:ops[e.on]? with
  | none=>rw [l] at c;cases c
  | some K=>rw [l] at c;exact H _ _ x (I e (Array.mem_toList_iff.1 y) u K i l c)
 unfold wpOp;simp only [D];have J:Region.wanted d (yielded ops f.tmps)=false:=by
  unfold Region.wanted;rw [z];have:yielded ops f.tmps e.on=some b:=by
   unfold yielded;rw [c];rw [zAm] at a;rw [Option.bind_some];cases ht:f.tmps[i]? with
   | none=>rw [ht] at a;cases a
   | some R=>rw [ht] at a;simp only [Option.getD_some] at a;rw [a]
  simp only [this];cases b <;> rfl
 rw [zBw (by rw [J];decide)];exact v _ _ (E w) (s w)
def aH {c:Nat->Oper->Prop} {f:Nat}:∀a b,([]:List Oper)[a]?=some b->c (f+a) b:=by intro a b d;simp at d
def aB {f:Nat->Oper->Prop} {c:Nat} {j:Oper} {i:List Oper} (k:f c j) (l:∀a b,i[a]?=some b->f (c+1+a) b):∀a b,(j::i)[a]?=some b->f (c+a) b:=by
 intro a b d;cases a with
 | zero=>simp at d;subst d;exact k
 | succ a=>simp at d;have:=l a b d;rwa [show c+1+a=c+(a+1) by omega] at this
def sC {P:Program} {ops:Array Oper} {Q:Exit->Act->World->Prop} {md:Region.Mode} {S:World->World->Prop} {V:Nat->Value->World->Prop} {a0:Act} {W0:World} {k:Nat} {o:Oper} {l:List Oper} (h:∀ev:Operand->Value,∀w,S W0 w->(∀v,ev (.const v)=v)->(∀f,ev (.func f)=.func (.func f) #[] #[])->(∀t,qT md ops k t=true->ev (.tmp t)=a0.eval (.tmp t))->(∀i d,o.after.toList.any (fun e=>Region.binds md e&&e.on==i)=true->((ops[i]?).bind (·.dst))=some d->V i (ev (.tmp d)) w)->∀a K,a.eval=ev->(∀v w',S w w'->V k v w'->K (a.put o.dst v) w')->Oper.upon P o a K Q ((execOp ev o).run P w)) (hl:∀j p,l[j]?=some p->dX P ops Q md S V a0 W0 (k+1+j) p) (ho:ops[k]?=some o:=by rfl) (hg:o.guard=none:=by rfl):∀j p,(o::l)[j]?=some p->dX P ops Q md S V a0 W0 (k+j) p:=aB (qE ho hg h) hl
def pL {P:Program} {ops:Array Oper} {Q:Exit->Act->World->Prop} {md:Region.Mode} {l:World->World->Prop} {m:Nat->Value->World->Prop} {s:Act} {q:World} {p:Nat} {d:Oper} {z:List Oper} {c:Addr} {C:Value} (o r:Nat) (x:∀w,l q w->w.cell? c=some C) (M:∀j c,z[j]?=some c->dX P ops Q md l m s q (p+1+j) c) (N:ops[p]?=some d:=by rfl) (K:d.guard=none:=by rfl) (I:d.after.toList.any (fun e=>Region.binds md e&&e.on==o)=true:=by kernel_rfl) (J:((ops[o]?).bind (·.dst))=some r:=by rfl) (E:∀(a:Operand->Value) (w:World),(∀k,a (.const k)=k)->(∀u,a (.func u)=.func (.func u) #[] #[])->m o (a (.tmp r)) w->w.cell? c=some C->∀(f:Act) (i:Act->World->Prop),f.eval=a->(∀k w',l w w'->m p k w'->i (f.put d.dst k) w')->Oper.upon P d f i Q ((execOp a d).run P w):=by (intro a w x y D R f i v b;have e:_=_:=D;go_simp;first|exact kq b rfl|exact b _ _ (VisK.refl _ _) rfl|exact b _ _ (Below.refl _ _) rfl|exact b _ _ (aE (VisK.refl _ _)) rfl|exact b _ _ (py_low (by decide) (by decide) (Below.refl _ _)) rfl|exact b _ _ (tr_low (by decide) (by decide) (by decide) (Below.refl _ _)) rfl)):∀j c,(d::z)[j]?=some c->dX P ops Q md l m s q (p+j) c:=aB (qE N K fun a w H L y S O f i v b=>E a w L y (O o r I J) (x w H) f i v b) M
def sK {P:Program} {ops:Array Oper} {Q:Exit->Act->World->Prop} {md:Region.Mode} {S:World->World->Prop} {V:Nat->Value->World->Prop} {a0:Act} {W0:World} {k g:Nat} {o:Oper} (d:Nat) (b:Bool) (hr:∀w,S w w) (ho:ops[k]?=some o:=by rfl) (hg:o.guard=some (g,!b):=by rfl) (hd:((ops[g]?).bind (·.dst))=some d:=by rfl) (ha:o.after.toList.any (fun e=>Region.binds md e&&e.on==g)=true:=by kernel_rfl) (hv:∀v w,S W0 w->V g v w->v=.bool b:=by exact fun _ _ _ h=>h) (h:∀w,V k undef w:=by exact fun _=>rfl):dX P ops Q md S V a0 W0 k o:=aFH ho hg hd ha hv hr h
def sG {P:Program} {ops:Array Oper} {Q:Exit->Act->World->Prop} {md:Region.Mode} {S:World->World->Prop} {V:Nat->Value->World->Prop} {a0:Act} {W0:World} {k g:Nat} {o:Oper} {l:List Oper} (d:Nat) (b:Bool) (h:∀ev:Operand->Value,∀w,S W0 w->(∀v,ev (.const v)=v)->(∀f,ev (.func f)=.func (.func f) #[] #[])->(∀t,qT md ops k t=true->ev (.tmp t)=a0.eval (.tmp t))->(∀i d,o.after.toList.any (fun e=>Region.binds md e&&e.on==i)=true->((ops[i]?).bind (·.dst))=some d->V i (ev (.tmp d)) w)->∀a K,a.eval=ev->(∀v w',S w w'->V k v w'->K (a.put o.dst v) w')->Oper.upon P o a K Q ((execOp ev o).run P w)) (hl:∀j p,l[j]?=some p->dX P ops Q md S V a0 W0 (k+1+j) p) (ho:ops[k]?=some o:=by rfl) (hg:o.guard=some (g,b):=by rfl) (hd:((ops[g]?).bind (·.dst))=some d:=by rfl) (ha:o.after.toList.any (fun e=>Region.binds md e&&e.on==g)=true:=by kernel_rfl) (hv:∀v w,S W0 w->V g v w->v=.bool b:=by exact fun _ _ _ h=>h):∀j p,(o::l)[j]?=some p->dX P ops Q md S V a0 W0 (k+j) p:=aB (pF ho hg hd ha hv h) hl
def pW {P:Program} {ops:Array Oper} {Q:Exit->Act->World->Prop} {md:Region.Mode} {S:World->World->Prop} {V:Nat->Value->World->Prop} {a0:Act} {W0:World} {k:Nat} {o:Oper} {l:List Oper} (i d j c:Nat) (hl:∀j p,l[j]?=some p->dX P ops Q md S V a0 W0 (k+1+j) p) (ho:ops[k]?=some o:=by rfl) (hg:o.guard=none:=by rfl) (hb:o.after.toList.any (fun e=>Region.binds md e&&e.on==i)=true:=by kernel_rfl) (hd:((ops[i]?).bind (·.dst))=some d:=by rfl) (hb2:o.after.toList.any (fun e=>Region.binds md e&&e.on==j)=true:=by kernel_rfl) (hd2:((ops[j]?).bind (·.dst))=some c:=by rfl) (h:∀(ev:Operand->Value) (w:World),(∀v,ev (.const v)=v)->(∀f,ev (.func f)=.func (.func f) #[] #[])->V i (ev (.tmp d)) w->V j (ev (.tmp c)) w->∀(a:Act) (K:Act->World->Prop),a.eval=ev->(∀v w',S w w'->V k v w'->K (a.put o.dst v) w')->Oper.upon P o a K Q ((execOp ev o).run P w):=by (intro ev w hc hf e0 f0 a K ha hK;have e:_=_:=e0;have f:_=_:=f0;go_simp;first|exact kq hK rfl|exact hK _ _ (VisK.refl _ _) rfl|exact hK _ _ (Below.refl _ _) rfl|exact hK _ _ (aE (VisK.refl _ _)) rfl|exact hK _ _ (py_low (by decide) (by decide) (Below.refl _ _)) rfl|exact hK _ _ (tr_low (by decide) (by decide) (by decide) (Below.refl _ _)) rfl)):∀j p,(o::l)[j]?=some p->dX P ops Q md S V a0 W0 (k+j) p:=aB (qE ho hg fun ev w _ hc hf hold hval a K ha hK=>h ev w hc hf (hval i d hb hd) (hval j c hb2 hd2) a K ha hK) hl
def gV {P:Program} {ops:Array Oper} {Q:Exit->Act->World->Prop} {md:Region.Mode} {m:World->World->Prop} {j:Nat->Value->World->Prop} {u:Act} {q:World} {p g:Nat} {c:Oper} {D:List Oper} (S:Nat) (v:Bool) (o r:Nat) (M:∀k l,D[k]?=some l->dX P ops Q md m j u q (p+1+k) l) (N:ops[p]?=some c:=by rfl) (L:c.guard=some (g,v):=by rfl) (K:((ops[g]?).bind (·.dst))=some S:=by rfl) (H:c.after.toList.any (fun e=>Region.binds md e&&e.on==g)=true:=by kernel_rfl) (O:∀d w,m q w->j g d w->d=.bool v:=by exact fun _ _ _ s=>s) (I:c.after.toList.any (fun e=>Region.binds md e&&e.on==o)=true:=by kernel_rfl) (J:((ops[o]?).bind (·.dst))=some r:=by rfl) (s:∀(a:Operand->Value) (w:World),(∀d,a (.const d)=d)->(∀x,a (.func x)=.func (.func x) #[] #[])->j o (a (.tmp r)) w->∀(f:Act) (i:Act->World->Prop),f.eval=a->(∀d w',m w w'->j p d w'->i (f.put c.dst d) w')->Oper.upon P c f i Q ((execOp a c).run P w):=by (intro a w z C E f i y b;have e:_=_:=E;go_simp;first|exact kq b rfl|exact b _ _ (VisK.refl _ _) rfl|exact b _ _ (Below.refl _ _) rfl|exact b _ _ (aE (VisK.refl _ _)) rfl|exact b _ _ (py_low (by decide) (by decide) (Below.refl _ _)) rfl|exact b _ _ (tr_low (by decide) (by decide) (by decide) (Below.refl _ _)) rfl)):∀k l,(c::D)[k]?=some l->dX P ops Q md m j u q (p+k) l:=aB (pF N L K H O fun a w _ z C T R f i y b=>s a w z C (R o r I J) f i y b) M
def pV {P:Program} {ops:Array Oper} {Q:Exit->Act->World->Prop} {md:Region.Mode} {S:World->World->Prop} {V:Nat->Value->World->Prop} {a0:Act} {W0:World} {k:Nat} {o:Oper} {l:List Oper} (i d:Nat) (hl:∀j p,l[j]?=some p->dX P ops Q md S V a0 W0 (k+1+j) p) (ho:ops[k]?=some o:=by rfl) (hg:o.guard=none:=by rfl) (hb:o.after.toList.any (fun e=>Region.binds md e&&e.on==i)=true:=by kernel_rfl) (hd:((ops[i]?).bind (·.dst))=some d:=by rfl) (h:∀(ev:Operand->Value) (w:World),(∀v,ev (.const v)=v)->(∀f,ev (.func f)=.func (.func f) #[] #[])->V i (ev (.tmp d)) w->∀(a:Act) (K:Act->World->Prop),a.eval=ev->(∀v w',S w w'->V k v w'->K (a.put o.dst v) w')->Oper.upon P o a K Q ((execOp ev o).run P w):=by (intro ev w hc hf e0 a K ha hK;have e:_=_:=e0;go_simp;first|exact kq hK rfl|exact hK _ _ (VisK.refl _ _) rfl|exact hK _ _ (Below.refl _ _) rfl|exact hK _ _ (aE (VisK.refl _ _)) rfl|exact hK _ _ (py_low (by decide) (by decide) (Below.refl _ _)) rfl|exact hK _ _ (tr_low (by decide) (by decide) (by decide) (Below.refl _ _)) rfl)):∀j p,(o::l)[j]?=some p->dX P ops Q md S V a0 W0 (k+j) p:=aB (qE ho hg fun ev w _ hc hf hold hval a K ha hK=>h ev w hc hf (hval i d hb hd) a K ha hK) hl
def gH {P:Program} {ops:Array Oper} {Q:Exit->Act->World->Prop} {md:Region.Mode} {m:World->World->Prop} {o:Nat->Value->World->Prop} {q:Act} {p:World} {k g:Nat} {d:Oper} {z:List Oper} (O:Nat) (s:Bool) (t:Nat) (C:Value) (J:∀j l,z[j]?=some l->dX P ops Q md m o q p (k+1+j) l) (K:ops[k]?=some d:=by rfl) (I:d.guard=some (g,s):=by rfl) (H:((ops[g]?).bind (·.dst))=some O:=by rfl) (D:d.after.toList.any (fun e=>Region.binds md e&&e.on==g)=true:=by kernel_rfl) (M:∀c w,m p w->o g c w->c=.bool s:=by exact fun _ _ _ r=>r) (E:qT md ops k t=true:=by kernel_rfl) (N:q.eval (.tmp t)=C:=by rfl) (r:∀(a:Operand->Value) (w:World),(∀c,a (.const c)=c)->(∀u,a (.func u)=.func (.func u) #[] #[])->a (.tmp t)=C->∀(f:Act) (i:Act->World->Prop),f.eval=a->(∀c w',m w w'->o k c w'->i (f.put d.dst c) w')->Oper.upon P d f i Q ((execOp a d).run P w):=by (intro a w x y e f i v b;go_simp;first|exact kq b rfl|exact b _ _ (VisK.refl _ _) rfl|exact b _ _ (Below.refl _ _) rfl|exact b _ _ (aE (VisK.refl _ _)) rfl|exact b _ _ (py_low (by decide) (by decide) (Below.refl _ _)) rfl|exact b _ _ (tr_low (by decide) (by decide) (by decide) (Below.refl _ _)) rfl)):∀j l,(d::z)[j]?=some l->dX P ops Q md m o q p (k+j) l:=aB (pF K I H D M fun a w _ x y L R f i v b=>r a w x y ((L t E).trans N) f i v b) J
def pH {P:Program} {ops:Array Oper} {Q:Exit->Act->World->Prop} {md:Region.Mode} {S:World->World->Prop} {V:Nat->Value->World->Prop} {a0:Act} {W0:World} {k:Nat} {o:Oper} {l:List Oper} (t:Nat) (x:Value) (hl:∀j p,l[j]?=some p->dX P ops Q md S V a0 W0 (k+1+j) p) (ho:ops[k]?=some o:=by rfl) (hg:o.guard=none:=by rfl) (hb:qT md ops k t=true:=by kernel_rfl) (hx:a0.eval (.tmp t)=x:=by rfl) (h:∀(ev:Operand->Value) (w:World),(∀v,ev (.const v)=v)->(∀f,ev (.func f)=.func (.func f) #[] #[])->ev (.tmp t)=x->∀(a:Act) (K:Act->World->Prop),a.eval=ev->(∀v w',S w w'->V k v w'->K (a.put o.dst v) w')->Oper.upon P o a K Q ((execOp ev o).run P w):=by (intro ev w hc hf e a K ha hK;go_simp;first|exact kq hK rfl|exact hK _ _ (VisK.refl _ _) rfl|exact hK _ _ (Below.refl _ _) rfl|exact hK _ _ (aE (VisK.refl _ _)) rfl|exact hK _ _ (py_low (by decide) (by decide) (Below.refl _ _)) rfl|exact hK _ _ (tr_low (by decide) (by decide) (by decide) (Below.refl _ _)) rfl)):∀j p,(o::l)[j]?=some p->dX P ops Q md S V a0 W0 (k+j) p:=aB (qE ho hg fun ev w _ hc hf hold hval a K ha hK=>h ev w hc hf ((hold t hb).trans hx) a K ha hK) hl
def aV {c:Nat->Oper->Prop} {d:List Oper} (f:∀a b,d[a]?=some b->c (0+a) b):∀a b,d.toArray[a]?=some b->c a b:=by
 intro a b i;have:=f a b (by simpa using i);rwa [zBi] at this
def is (a:Value):Value->World->Prop:=fun b _=>b=a
def row (sz n:Nat) (xs:List Value):Value->World->Prop:=fun b w=>∃A a,b=.slice A n a/\Rd w w.heap.size sz A n xs/\n<=a/\a<=maxLen
def Grow (w w':World):Prop:=Below w.heap.size w w'
def Grow.trans {w w1 b:World} (a:Grow w w1) (c:Grow w1 b):Grow w b:=Below.trans a (Below.mono c (Below.size a))
def Stb (a:Value->World->Prop):Prop:=∀b w w',a b w->Grow w w'->a b w'
def aJ8 (a:Value):Stb (is a):=fun _ _ _ b _=>b
def aI3 (sz n:Nat) (xs:List Value):Stb (row sz n xs):=fun _ _ _ ⟨A,b,c,d,f⟩ a=>⟨A,b,c,(d.below a).mono (Below.size a),f⟩
def Vs (b:List (Value->World->Prop)) (a:Nat):Value->World->Prop:=b.getD a fun _ _=>True
def aI4 {b:List (Value->World->Prop)} (j:∀c∈b,Stb c):∀a d w w',Vs b a d w->Grow w w'->Vs b a d w':=by
 intro a d w w' f k;unfold Vs at*
 rw [zAb] at*
 cases i:b[a]? with
 | none=>exact trivial
 | some c=>rw [i] at f;exact j c (zAd i) _ _ _ f k
end
def cX (d:Operand->Value) (c:List Nat) (b:Act):Act:=c.foldl (fun f a=>f.put (some a) (d (.tmp a))) b
def zqq:(∀(i:Operand->Value) (d:Nat) (l:List Nat) (f:Act),cX i (d::l) f=cX i l (f.put (some d) (i (.tmp d))))/\(∀(i:Operand->Value) (f:Act),cX i [] f=f)/\(∀t k d m,Act.put ⟨t,k⟩ (some d) m=⟨t.setIfInBounds d m,k⟩)/\(∀(a:List Value) j c,a.toArray.setIfInBounds j c=(a.set j c).toArray)/\(∀(a:List Value) c b,(c::a).set 0 b=b::a)/\∀(a:List Value) c b n,(c::a).set (n+1) b=c::a.set n b:=⟨fun _ _ _ _=>rfl,fun _ _=>rfl,fun _ _ _ _=>rfl,fun a j c=>List.setIfInBounds_toArray a j c,fun _ _ _=>rfl,fun _ _ _ _=>rfl⟩
def aJe (b:Act) (d:List Nat) (a:Act) (o:b.tmps.size=a.tmps.size):
 (cX b.eval d a).tmps.size=a.tmps.size/\(cX b.eval d a).defers=a.defers/\
 ∀t,(cX b.eval d a).tmps.getD t undef=if t∈d then b.tmps.getD t undef else a.tmps.getD t undef:=by
 induction d generalizing a with
 | nil=>exact ⟨rfl,rfl,fun t=>by simp [cX]⟩
 | cons c d s=>
   have i:(a.put (some c) (b.eval (.tmp c))).tmps.size=a.tmps.size:=(by simp [Act.put]);obtain ⟨p,q,r⟩:=s (a.put (some c) (b.eval (.tmp c))) (by rw [i];exact o);refine ⟨p.trans i,q,fun t=>?_⟩;have l:=r t;change (cX b.eval d (a.put (some c) (b.eval (.tmp c)))).tmps.getD t undef=_;rw [l];by_cases ht:t∈d
   · rw [zBx ht,zBx (List.mem_cons_of_mem _ ht)]
   · rw [zBw ht];by_cases f:t=c
     · subst f;rw [zBx (List.mem_cons_self ..)];by_cases j:t < a.tmps.size
       · simp [Act.put,zAm,j,Act.eval]
       · have m:¬t < b.tmps.size:=oM;simp [Act.put,zAm,j,m]
     · rw [zBw (by simp [f,ht])];have:c≠t:=fun k=>f k.symm;simp [Act.put,zAm,this]
def aIK {a b:Act} (c:List Nat) (p:a.tmps.size=b.tmps.size) (j:a.defers=b.defers) (r:∀t,t∉c->a.tmps.getD t undef=b.tmps.getD t undef):a=cX a.eval c b:=by
 obtain ⟨v,l,x⟩:=aJe a c b p;have m:a.tmps=(cX a.eval c b).tmps:=by
  apply Array.ext
  · rw [v,p]
  · intro d s u;have:=x d;have q:(cX a.eval c b).tmps.getD d undef=(cX a.eval c b).tmps[d]:=(by simp [zAm,u]);have o:a.tmps.getD d undef=a.tmps[d]:=(by simp [zAm,s]);rw [q] at this;rw [this];by_cases k:d∈c
    · rw [zBx k,o]
    · rw [zBw k,<-r d k,o]
 cases f:a with
 | mk t y=>
   cases i:cX a.eval c b with
   | mk C z=>
     rw [f] at i;rw [i];rw [f,i] at m;rw [f,i] at l;rw [f] at j;simp only at m l j;rw [m,j,l]
section
variable {P : Program} {ops : Array Oper} {Q : Exit -> Act -> World -> Prop} {md : Region.Mode}
def aGx (md:Region.Mode) (ops:Array Oper) (a b:Nat):Bool:=match ops[a]? with
 | some c=>c.after.toList.any (fun e=>Region.binds md e&&e.on==b)
 | none=>false
def dH (P:Program) (ops:Array Oper) (Q:Exit->Act->World->Prop) (md:Region.Mode) (m:World->Prop) (o:Nat->World->World->Prop) (p:Nat->World->Prop) (f:Nat->Value->World->Prop) (c:Act) (b:Nat) (j:Oper):Prop:=
 ∀a w,m w->p b w->a.tmps.size=c.tmps.size->a.defers=c.defers->
    (∀t,qT md ops b t=true->a.tmps.getD t undef=c.tmps.getD t undef)->
    (∀e∈j.after,Region.binds md e=true->∀k i,ops[e.on]?=some k->k.dst=some i->f e.on (a.tmps.getD i undef) w)->
    ∀d:Act->World->Prop,(∀l w',o b w w'->f b l w'->d (a.put j.dst l) w')->wpOp P ops Q b d a w
def mP {p:World->Prop} {q:Nat->World->World->Prop} {r:Nat->World->Prop} {m:Nat->Value->World->Prop} {s:Act} {d:Nat} {a:Oper} (J:ops[d]?=some a) (H:a.guard=none)
 (x:∀c:Operand->Value,∀w,p w->r d w->(∀f,c (.const f)=f)->(∀u,c (.func u)=.func (.func u) #[] #[])->(∀t,qT md ops d t=true->c (.tmp t)=s.eval (.tmp t))->
  (∀l j,a.after.toList.any (fun e=>Region.binds md e&&e.on==l)=true->((ops[l]?).bind (·.dst))=some j->m l (c (.tmp j)) w)->
  ∀b i,b.eval=c->(∀f w',q d w w'->m d f w'->i (b.put a.dst f) w')->Oper.upon P a b i Q ((execOp c a).run P w)):dH P ops Q md p q r m s d a:=by
 intro b w C D R O K L i z;unfold wpOp;simp only [J];have M:Region.wanted a (yielded ops b.tmps)=true:=by unfold Region.wanted;rw [H]
 rw [zBx M];refine .inl (x b.eval w C D (fun _=>rfl) (fun _=>rfl) (fun t ht=>K t ht) (fun l j I k=>?_) b i rfl z);obtain ⟨e,E,v⟩:=List.any_eq_true.1 I;simp only [zBd,zCr] at v;obtain ⟨y,rfl⟩:=v;cases o:ops[e.on]? with
 | none=>rw [o] at k;cases k
 | some N=>rw [o] at k;exact L e (Array.mem_toList_iff.1 E) y N j o k
def sC3 {P:Program} {ops:Array Oper} {Q:Exit->Act->World->Prop} {md:Region.Mode} {C:World->Prop} {S:Nat->World->World->Prop} {U:Nat->World->Prop} {V:Nat->Value->World->Prop} {a0:Act} {k:Nat} {o:Oper} {l:List Oper} (h:∀ev:Operand->Value,∀w,C w->U k w->(∀v,ev (.const v)=v)->(∀f,ev (.func f)=.func (.func f) #[] #[])->(∀t,qT md ops k t=true->ev (.tmp t)=a0.eval (.tmp t))->(∀i d,o.after.toList.any (fun e=>Region.binds md e&&e.on==i)=true->((ops[i]?).bind (·.dst))=some d->V i (ev (.tmp d)) w)->∀a K,a.eval=ev->(∀v w',S k w w'->V k v w'->K (a.put o.dst v) w')->Oper.upon P o a K Q ((execOp ev o).run P w)) (hl:∀j p,l[j]?=some p->dH P ops Q md C S U V a0 (k+1+j) p) (ho:ops[k]?=some o:=by rfl) (hg:o.guard=none:=by rfl):∀j p,(o::l)[j]?=some p->dH P ops Q md C S U V a0 (k+j) p:=aB (mP ho hg h) hl
def pL3 {P:Program} {ops:Array Oper} {Q:Exit->Act->World->Prop} {md:Region.Mode} {p:World->Prop} {q:Nat->World->World->Prop} {s:Nat->World->Prop} {m:Nat->Value->World->Prop} {u:Act} {k:Nat} {d:Oper} {C:List Oper} {c:Addr} {D:Value} (o r:Nat) (y:∀w,p w->w.cell? c=some D) (N:∀j c,C[j]?=some c->dH P ops Q md p q s m u (k+1+j) c) (O:ops[k]?=some d:=by rfl) (L:d.guard=none:=by rfl) (J:d.after.toList.any (fun e=>Region.binds md e&&e.on==o)=true:=by kernel_rfl) (K:((ops[o]?).bind (·.dst))=some r:=by rfl) (H:∀(a:Operand->Value) (w:World),(∀l,a (.const l)=l)->(∀v,a (.func v)=.func (.func v) #[] #[])->m o (a (.tmp r)) w->w.cell? c=some D->∀(f:Act) (i:Act->World->Prop),f.eval=a->(∀l w',q k w w'->m k l w'->i (f.put d.dst l) w')->Oper.upon P d f i Q ((execOp a d).run P w):=by (intro a w y z E S f i x b;have e:_=_:=E;go_simp;first|exact kq b rfl|exact b _ _ (VisK.refl _ _) rfl|exact b _ _ (Below.refl _ _) rfl|exact b _ _ (aE (VisK.refl _ _)) rfl|exact b _ _ (py_low (by decide) (by decide) (Below.refl _ _)) rfl|exact b _ _ (tr_low (by decide) (by decide) (by decide) (Below.refl _ _)) rfl)):∀j c,(d::C)[j]?=some c->dH P ops Q md p q s m u (k+j) c:=aB (mP O L fun a w I _ M z T R f i x b=>H a w M z (R o r J K) (y w I) f i x b) N
def pW3 {P:Program} {ops:Array Oper} {Q:Exit->Act->World->Prop} {md:Region.Mode} {C:World->Prop} {S:Nat->World->World->Prop} {U:Nat->World->Prop} {V:Nat->Value->World->Prop} {a0:Act} {k:Nat} {o:Oper} {l:List Oper} (i d j c:Nat) (hl:∀j p,l[j]?=some p->dH P ops Q md C S U V a0 (k+1+j) p) (ho:ops[k]?=some o:=by rfl) (hg:o.guard=none:=by rfl) (hb:o.after.toList.any (fun e=>Region.binds md e&&e.on==i)=true:=by kernel_rfl) (hd:((ops[i]?).bind (·.dst))=some d:=by rfl) (hb2:o.after.toList.any (fun e=>Region.binds md e&&e.on==j)=true:=by kernel_rfl) (hd2:((ops[j]?).bind (·.dst))=some c:=by rfl) (h:∀(ev:Operand->Value) (w:World),(∀v,ev (.const v)=v)->(∀f,ev (.func f)=.func (.func f) #[] #[])->V i (ev (.tmp d)) w->V j (ev (.tmp c)) w->∀(a:Act) (K:Act->World->Prop),a.eval=ev->(∀v w',S k w w'->V k v w'->K (a.put o.dst v) w')->Oper.upon P o a K Q ((execOp ev o).run P w):=by (intro ev w hc hf e0 f0 a K ha hK;have e:_=_:=e0;have f:_=_:=f0;go_simp;first|exact kq hK rfl|exact hK _ _ (VisK.refl _ _) rfl|exact hK _ _ (Below.refl _ _) rfl|exact hK _ _ (aE (VisK.refl _ _)) rfl|exact hK _ _ (py_low (by decide) (by decide) (Below.refl _ _)) rfl|exact hK _ _ (tr_low (by decide) (by decide) (by decide) (Below.refl _ _)) rfl)):∀j p,(o::l)[j]?=some p->dH P ops Q md C S U V a0 (k+j) p:=aB (mP ho hg fun ev w _ _ hc hf hold hval a K ha hK=>h ev w hc hf (hval i d hb hd) (hval j c hb2 hd2) a K ha hK) hl
def pV3 {P:Program} {ops:Array Oper} {Q:Exit->Act->World->Prop} {md:Region.Mode} {C:World->Prop} {S:Nat->World->World->Prop} {U:Nat->World->Prop} {V:Nat->Value->World->Prop} {a0:Act} {k:Nat} {o:Oper} {l:List Oper} (i d:Nat) (hl:∀j p,l[j]?=some p->dH P ops Q md C S U V a0 (k+1+j) p) (ho:ops[k]?=some o:=by rfl) (hg:o.guard=none:=by rfl) (hb:o.after.toList.any (fun e=>Region.binds md e&&e.on==i)=true:=by kernel_rfl) (hd:((ops[i]?).bind (·.dst))=some d:=by rfl) (h:∀(ev:Operand->Value) (w:World),(∀v,ev (.const v)=v)->(∀f,ev (.func f)=.func (.func f) #[] #[])->V i (ev (.tmp d)) w->∀(a:Act) (K:Act->World->Prop),a.eval=ev->(∀v w',S k w w'->V k v w'->K (a.put o.dst v) w')->Oper.upon P o a K Q ((execOp ev o).run P w):=by (intro ev w hc hf e0 a K ha hK;have e:_=_:=e0;go_simp;first|exact kq hK rfl|exact hK _ _ (VisK.refl _ _) rfl|exact hK _ _ (Below.refl _ _) rfl|exact hK _ _ (aE (VisK.refl _ _)) rfl|exact hK _ _ (py_low (by decide) (by decide) (Below.refl _ _)) rfl|exact hK _ _ (tr_low (by decide) (by decide) (by decide) (Below.refl _ _)) rfl)):∀j p,(o::l)[j]?=some p->dH P ops Q md C S U V a0 (k+j) p:=aB (mP ho hg fun ev w _ _ hc hf hold hval a K ha hK=>h ev w hc hf (hval i d hb hd) a K ha hK) hl
def pH3 {P:Program} {ops:Array Oper} {Q:Exit->Act->World->Prop} {md:Region.Mode} {C:World->Prop} {S:Nat->World->World->Prop} {U:Nat->World->Prop} {V:Nat->Value->World->Prop} {a0:Act} {k:Nat} {o:Oper} {l:List Oper} (t:Nat) (x:Value) (hl:∀j p,l[j]?=some p->dH P ops Q md C S U V a0 (k+1+j) p) (ho:ops[k]?=some o:=by rfl) (hg:o.guard=none:=by rfl) (hb:qT md ops k t=true:=by kernel_rfl) (hx:a0.eval (.tmp t)=x:=by rfl) (h:∀(ev:Operand->Value) (w:World),(∀v,ev (.const v)=v)->(∀f,ev (.func f)=.func (.func f) #[] #[])->ev (.tmp t)=x->∀(a:Act) (K:Act->World->Prop),a.eval=ev->(∀v w',S k w w'->V k v w'->K (a.put o.dst v) w')->Oper.upon P o a K Q ((execOp ev o).run P w):=by (intro ev w hc hf e a K ha hK;go_simp;first|exact kq hK rfl|exact hK _ _ (VisK.refl _ _) rfl|exact hK _ _ (Below.refl _ _) rfl|exact hK _ _ (aE (VisK.refl _ _)) rfl|exact hK _ _ (py_low (by decide) (by decide) (Below.refl _ _)) rfl|exact hK _ _ (tr_low (by decide) (by decide) (by decide) (Below.refl _ _)) rfl)):∀j p,(o::l)[j]?=some p->dH P ops Q md C S U V a0 (k+j) p:=aB (mP ho hg fun ev w _ _ hc hf hold hval a K ha hK=>h ev w hc hf ((hold t hb).trans hx) a K ha hK) hl
end
section
variable {P : Program} {ops : Array Oper} {Q : Exit -> Act -> World -> Prop} {md : Region.Mode}
def upB (md:Region.Mode) (ops:Array Oper):Nat->Nat->Nat->Bool
 | 0,_,_=>false
 | f+1,j,i=>match ops[j]? with
   | some a=>a.after.toList.any fun e=>Region.binds md e&&(e.on==i||upB md ops f e.on i)
   | none=>false
def pC {j:Array Bool} (hs:∀p f,ops[p]?=some f->j.getD p false=true->∀e∈f.after,Region.binds md e=true->j.getD e.on false=true):
 ∀b i d k,ops[i]?=some k->(∀e∈k.after,Region.binds md e=true->j.getD e.on false=true)->upB md ops b i d=true->j.getD d false=true:=by
 intro b
 induction b with
 | zero=>intro i d k _ _ c;cases c
 | succ b u=>
   intro i d k s q c;unfold upB at c;rw [s] at c;obtain ⟨e,r,l⟩:=List.any_eq_true.1 c;simp only [zBd,Bool.or_eq_true,zCr] at l;have o:=q e (Array.mem_toList_iff.1 r) l.1;rcases l.2 with a | a;rw [<-a];exact o
   · cases m:ops[e.on]? with
     | none=>
       exfalso;cases b with
       | zero=>cases a
       | succ b=>unfold upB at a;rw [m] at a;cases a
     | some f=>exact u e.on d f m (hs e.on f m o) a
def bX (n b:Nat):Array Bool:=((List.range b).map fun a=>decide (a < n)).toArray
def aA7 (n a:Nat) (k:n<=a):(bX n a).toList.count false=a - n:=by
 unfold bX;rw [List.toList_toArray]
 induction a with
 | zero=>simp
 | succ a j=>
   rw [List.range_succ,zAz,zCc];rcases zBe a n with b | b
   · have:n=a+1:=oM;subst this;have e:(List.map (fun i=>decide (i < a+1)) (List.range a)).count false=0:=(by rw [List.count_eq_zero];intro d;obtain ⟨l,f,c⟩:=zAy.1 d;have:=zCj.1 f;simp at c;omega);rw [e];simp
   rw [j b];have:¬(a < n):=oM;simp [this];omega
def bO {a:Nat} {i:Array Bool} {b:Act} {w:World} (f:Region.ready md ops i= []) (d:Q .normal b w):wpAny P md ops Q a i b w:=by
 cases a with
 | zero=>exact ⟨f,d⟩
 | succ a=>exact ⟨fun _=>d,fun j c=>by rw [f] at c;cases c⟩
def bL {f:Nat} {a:Array Bool} {b:Act} {w:World} {i:Nat} (j:Region.ready md ops a= [i]) (k:wpOp P ops Q i (wpAny P md ops Q f (a.setIfInBounds i true)) b w):wpAny P md ops Q (f+1) a b w:=
 ⟨fun c=>(by rw [j] at c;cases c),fun l d=>(by rw [j] at d;cases List.mem_singleton.1 d;exact k)⟩
def uZ (P:Program) (ops:Array Oper) (Q:Exit->Act->World->Prop) (md:Region.Mode) (m:(Operand->Value)->World->Prop) (o:Nat->Value->World->World->Prop) (p:Nat->World->Prop) (i:Nat->(Operand->Value)->Value->World->Prop) (c:Act) (b:Nat) (k:Oper):Prop:=
 ∀a w,m a.eval w->p b w->a.tmps.size=c.tmps.size->a.defers=c.defers->
    (∀t,qT md ops b t=true->a.tmps.getD t undef=c.tmps.getD t undef)->
    (∀e∈k.after,Region.binds md e=true->∀l j,ops[e.on]?=some l->l.dst=some j->i e.on a.eval (a.tmps.getD j undef) w)->
    ∀f:Act->World->Prop,(∀d w',o b d w w'->i b a.eval d w'->f (a.put k.dst d) w')->wpOp P ops Q b f a w
def cH {p:(Operand->Value)->World->Prop} {q:Nat->Value->World->World->Prop} {r:Nat->World->Prop} {m:Nat->(Operand->Value)->Value->World->Prop} {s:Act} {d:Nat} {b:Oper} (J:ops[d]?=some b) (H:b.guard=none)
 (x:∀a:Operand->Value,∀w,p a w->r d w->(∀f,a (.const f)=f)->(∀u,a (.func u)=.func (.func u) #[] #[])->(∀t,qT md ops d t=true->a (.tmp t)=s.eval (.tmp t))->
  (∀l j,b.after.toList.any (fun e=>Region.binds md e&&e.on==l)=true->((ops[l]?).bind (·.dst))=some j->m l a (a (.tmp j)) w)->
  ∀c i,c.eval=a->(∀f w',q d f w w'->m d a f w'->i (c.put b.dst f) w')->Oper.upon P b c i Q ((execOp a b).run P w)):uZ P ops Q md p q r m s d b:=by
 intro c w C D R O K L i z;unfold wpOp;simp only [J];have M:Region.wanted b (yielded ops c.tmps)=true:=by unfold Region.wanted;rw [H]
 rw [zBx M];refine .inl (x c.eval w C D (fun _=>rfl) (fun _=>rfl) (fun t ht=>K t ht) (fun l j I k=>?_) c i rfl z);obtain ⟨e,E,v⟩:=List.any_eq_true.1 I;simp only [zBd,zCr] at v;obtain ⟨y,rfl⟩:=v;cases o:ops[e.on]? with
 | none=>rw [o] at k;cases k
 | some N=>rw [o] at k;exact L e (Array.mem_toList_iff.1 E) y N j o k
def aJ6 {o:Nat} (l:jW md ops o=true):∀c b d,upB md ops c b d=true->d < b:=by
 intro c
 induction c with
 | zero=>intro b d a;cases a
 | succ c m=>
   intro b d a;unfold upB at a;cases i:ops[b]? with
   | none=>rw [i] at a;cases a
   | some q=>
     rw [i] at a;obtain ⟨e,k,f⟩:=List.any_eq_true.1 a;simp only [zBd,Bool.or_eq_true,zCr] at f;have p:=(mY l i).1 e (Array.mem_toList_iff.1 k) f.1;rcases f.2 with j | j;omega;have:=m _ _ j;omega
def aDt {i:Nat} (d:jW md ops i=true) {c a b:Nat} (j:b<=a) (f:upB md ops c b a=true):False:=by
 have:=aJ6 d c b a f;omega
structure LooseF (md:Region.Mode) (ops:Array Oper) (C:(Operand->Value)->World->Prop) (U:Nat->World->Prop) (V:Nat->(Operand->Value)->Value->World->Prop) (a0:Act) (listed:Array Bool) (a:Act) (w:World):Prop where
 world:C a.eval w
 pre:∀j o,ops[j]?=some o->listed.getD j false=false->U j w
 size:a.tmps.size=a0.tmps.size
 defers:a.defers=a0.defers
 old:∀t,(∀k p,ops[k]?=some p->p.dst=some t->listed.getD k false=false)->a.tmps.getD t undef=a0.tmps.getD t undef
 val:∀i o,ops[i]?=some o->listed.getD i false=true->∃v,(∀d,o.dst=some d->a.tmps.getD d undef=v)/\V i a.eval v w
 shut:∀k p,ops[k]?=some p->listed.getD k false=true->∀e∈p.after,Region.binds md e=true->listed.getD e.on false=true
def aEi {a:Array Bool} {b:Nat} (d:b < a.size) (f:a.toList.count false=0):a.getD b false=true:=by
 cases c:a.getD b false with
 | true=>rfl
 | false=>
   exfalso;have:false∈a.toList:=(by simp [d] at c;exact c ▸(by simp));have:=List.count_pos_iff.2 this;omega
def kL {n:Nat} {a8:List Nat} {C:(Operand->Value)->World->Prop} {S:Nat->Value->World->World->Prop} {U:Nat->World->Prop} {V:Nat->(Operand->Value)->Value->World->Prop} {I:Act} {a7:World} (au:(ops.toList.take n).filterMap (·.dst)=a8) (al:n<=ops.size) (a4:jW md ops I.tmps.size=true)
 (aG:∀l a,n<=l->l < ops.size->a < n->upB md ops ops.size l a=true) (an:C I.eval a7) (ap:∀a,U a a7)
 (am:∀b j v H k w w',b < n->ops[b]?=some j->(∀o,j.dst=some o->H (.tmp o)=k)->(∀t,j.dst≠some t->H (.tmp t)=v (.tmp t))->C v w->S b k w w'->C H w')
 (ao:∀a b v k w w',b < n->a≠b->upB md ops ops.size b a=false->U a w->C v w->S b k w w'->U a w')
 (aC:∀b j v H k w,ops[b]?=some j->(∀t,j.dst≠some t->H (.tmp t)=v (.tmp t))->V b v k w->V b H k w)
 (aD:∀a b j v H k af w w',b < n->a < ops.size->ops[b]?=some j->(∀t,j.dst≠some t->H (.tmp t)=v (.tmp t))->a≠b->upB md ops ops.size a b=false->V a v k w->C v w->S b af w w'->V a H k w')
 (aE:∀b j,b < n->ops[b]?=some j->uZ P ops Q md C S U V I b j)
 (aw:∀(v:Operand->Value) w f,C v w->(∀a o,a < n->((ops[a]?).bind (·.dst))=some o->V a v (v (.tmp o)) w)->(∀a,a < n->∃k,V a v k w)->wpAny P md ops Q (ops.size - n+f) (bX n ops.size) (cX v a8 I) w):
 wpAny P md ops Q ops.size (Array.replicate ops.size false) I a7:=by
 have ah:∀y d r w,d.size=ops.size->d.toList.count false<=y->LooseF md ops C U V I d r w->(∀l,n<=l->d.getD l false=false)->(∀a,a < n->d.getD a false=true)->wpAny P md ops Q y d r w:=by
  intro y d r w O z c T R;have D:d=bX n ops.size:=by
   apply Array.ext
   · simp [bX,O]
   intro a E W;rcases zBe a n with L | L;have K:=R a L;simp [E] at K;simp [bX,K];exact L;have K:=T a L;simp [E] at K;simp [bX,K];omega
  have aL:ops.size - n<=y:=by rw [D,aA7 _ _ al] at z;exact z
  have K:=aw r.eval w (y -(ops.size - n)) c.world (fun a o q p=>by
   cases s:ops[a]? with
   | none=>rw [s] at p;cases p
   | some j=>
     rw [s] at p;obtain ⟨k,E,W⟩:=c.val a j s (R a q);rw [show r.eval (.tmp o)=k from E o p];exact W) fun a q=>by
   obtain ⟨k,_,W⟩:=c.val a _ (zAq (zAl q al)) (R a q);exact ⟨k,W⟩
  rw [<-aIK a8 c.size c.defers fun t ht=>c.old t fun l x m p=>?_,<-D,show ops.size - n+(y -(ops.size - n))=y by omega] at K;exact K;refine T l ?_;rcases zBe l n with u | u;refine absurd ?_ ht;rw [<-au];refine List.mem_filterMap.2 ⟨x,zAd (i:=l) ?_,p⟩;rw [zBs,zBx u,Array.getElem?_toList];exact m;exact u
 have aK:∀d:Array Bool,d.size=ops.size->Region.ready md ops d= []->∀a,a < ops.size->d.getD a false=true:=by
  intro d O ad a
  induction a using Nat.strongRecOn with
  | _ a ae=>
    intro q;cases z:d.getD a false with
    | true=>rfl
    | false=>
      exfalso;have a5:a∈Region.ready md ops d:=(by refine mem_ready.2 ⟨?_,ops[a],zAq q,fun e D M=>?_⟩;have ay:a < d.size:=oM;simp [ay] at z⊢;exact z;have:=(mY a4 (zAq q)).1 e D M;exact ae e.on this oM);rw [ad] at a5;cases a5
 have aJ:∀y d r w,d.size=ops.size->d.toList.count false<=y->LooseF md ops C U V I d r w->(∀l,n<=l->d.getD l false=false)->wpAny P md ops Q y d r w:=by
  intro y
  induction y with
  | zero=>exact fun d r w O z c T=>ah 0 d r w O z c T fun a q=>aEi oM oM
  | succ y ae=>
    intro d r w O z c T;by_cases R:∀a,a < n->d.getD a false=true;exact ah _ d r w O z c T R;refine ⟨fun ad=>absurd (fun a q=>aK d O ad a oM) R,fun b az=>?_⟩;obtain ⟨ai,j,s,a1⟩:=mem_ready.1 az;have Z:b < ops.size:=(zAh.1 s).1;have N:b < d.size:=oM;have J:d.getD b false=false:=(by simp [N] at ai⊢;exact ai);have a3:b < n:=by rcases zBe b n with L | L;exact L;exact absurd (fun a q=>pC c.shut _ b a j s a1 (aG b a L Z q)) R
    have ac:∀k t,j.dst≠some t->(r.put j.dst k).eval (.tmp t)=r.eval (.tmp t):=by
        intro k t ht;cases a0:j.dst with
        | none=>rfl
        | some o=>
          have X:o≠t:=fun e=>ht (by rw [a0,e]);simp [Act.eval,Act.put,zAm,X]
    have av:∀k o,j.dst=some o->(r.put j.dst k).eval (.tmp o)=k:=(by intro k o p;have aa:=((mY a4 s).2 o p).1;have:o < r.tmps.size:=(by rw [c.size];exact aa);simp [Act.eval,Act.put,zAm,p,this]);refine aE b j a3 s r w c.world (c.pre b j s J) c.size c.defers (fun t ht=>c.old t fun l x m p=>?_) (fun e D M x o m p=>by obtain ⟨k,E,W⟩:=c.val e.on x m (a1 e D M);rw [E o p];exact W) _ fun k w' a9 aq=>?_
    · rcases aJo ht m p with rfl |⟨e,D,M,ax⟩;exact J
      · cases u:d.getD l false with
        | false=>rfl
        | true=>
          have:=c.shut l x m u e D M;rw [ax,J] at this;cases this
    · refine ae _ _ _ (by simpa using O) ?_ ?_ (fun l u=>by rw [getD_set_ne false (by omega:b≠l)];exact T l u);have a6:d.toList[b]'(by simpa using N)=false:=(by simp [N] at J⊢;exact J);rw [Array.toList_setIfInBounds,List.count_set (by simpa using N),a6];simp;have a5:false∈d.toList:=a6 ▸ zBj _;have:=List.count_pos_iff.2 a5;rw [<-Array.count_toList];omega
      · have aF:(r.put j.dst k).tmps.size=I.tmps.size:=by
          rw [<-c.size];cases j.dst with
          | none=>rfl
          | some o=>simp [Act.put]
        refine ⟨am b j _ _ k w w' a3 s (av k) (ac k) c.world a9,fun a x m q=>?_,aF,?_,fun t ht=>?_,fun a x m q=>?_,fun l x m u e D M=>?_⟩
        · have aj:a≠b:=fun e=>by rw [e,gX N] at q;cases q
          rw [getD_set_ne false aj.symm] at q;refine ao a b r.eval k w w' a3 aj ?_ (c.pre a x m q) c.world a9;cases aI:upB md ops ops.size b a with
          | false=>rfl
          | true=>
            have:=pC c.shut _ b a j s a1 aI;rw [q] at this;cases this
        · rw [<-c.defers];cases j.dst <;> rfl
        · have aA:j.dst≠some t:=fun p=>by have:=ht b j s p;rw [gX N] at this;cases this
          have aB:=c.old t fun l x m p=>by
           have:=ht l x m p;cases u:d.getD l false with
           | false=>rfl
           | true=>
             by_cases ak:b=l
             · subst ak;rw [J] at u;cases u
             · rw [getD_set_ne false ak,u] at this;cases this
          rw [<-aB];cases a0:j.dst with
          | none=>rfl
          | some o=>
            have X:o≠t:=fun c=>aA (by rw [a0,c]);simp [Act.put,zAm,X]
        · rcases tS q with rfl | a2
          · rw [s] at m;injection m with m;subst m;refine ⟨k,fun o p=>?_,aC _ _ _ _ _ _ s (ac k) aq⟩;have aa:=((mY a4 s).2 o p).1;rw [p];have:o < r.tmps.size:=(by rw [c.size];exact aa);simp [Act.put,zAm,this]
          · by_cases ab:a=b
            · subst ab;rw [J] at a2;cases a2
            obtain ⟨af,aH,a6⟩:=c.val a x m a2
            have ar:upB md ops ops.size a b=false:=by
              cases z:upB md ops ops.size a b with
              | false=>rfl
              | true=>
                exfalso;have:=pC c.shut _ a b x m (c.shut a x m a2) z;rw [J] at this;cases this
            refine ⟨af,fun o p=>?_,aD _ _ _ _ _ _ _ _ _ a3 (zAh.1 m).1 s (ac k) ab ar a6 c.world a9⟩;rw [<-aH o p];cases a0:j.dst with
            | none=>rfl
            | some ag=>
              have X:ag≠o:=fun c=>ab (((mY a4 s).2 ag a0).2 a x m (c ▸ p));simp [Act.put,zAm,X]
        rcases tS u with rfl | u;rw [s] at m;injection m with m;subst m;have E:=a1 e D M;by_cases Y:l=e.on;rw [<-Y];exact gX N _;rw [getD_set_ne false Y];exact E;have E:=c.shut l x m u e D M;by_cases Y:b=e.on;rw [<-Y];exact gX N _;rw [getD_set_ne false Y];exact E
 refine aJ _ _ _ _ (by simp) (by simp) ⟨an,fun b _ _ _=>ap b,rfl,rfl,fun _ _=>rfl,fun a j s q=>?_,fun l x m u=>?_⟩ (fun l u=>by
  rw [zAm];rcases zBe l ops.size with c | c
  · simp [c]
  · rw [Array.getElem?_eq_none (by simpa using c)];rfl)
 · have Z:a < ops.size:=(zAh.1 s).1;simp [Z] at q
 · have Z:l < ops.size:=(zAh.1 m).1;simp [Z] at u
def nC {b n:Nat} {a:Act} {w:World} (i:n=ops.size) (k:Q .normal a w):wpAny P md ops Q b (bX n ops.size) a w:=by
 refine bO ?_ k;rw [List.eq_nil_iff_forall_not_mem];intro l d;obtain ⟨c,m,j,_⟩:=mem_ready.1 d;have f:l < ops.size:=(zAh.1 j).1;simp [bX,f,i] at c
def aEs {b f:Nat} (m:b < ops.size) (c:upB md ops ops.size b f=false):aGx md ops b f=false:=by
 cases a:aGx md ops b f with
 | false=>rfl
 | true=>
   exfalso;obtain ⟨j,l⟩:∃j,ops.size=j+1:=⟨ops.size - 1,by omega⟩;unfold aGx at a;rw [l] at c;unfold upB at c;cases i:ops[b]? with
   | none=>rw [i] at a;cases a
   | some o=>
     rw [i] at a c;obtain ⟨e,k,d⟩:=List.any_eq_true.1 a;simp only [zBd,zCr] at d;have:=List.any_eq_false.1 c e k;simp [d.1,d.2] at this
def vE (ops:Array Oper):ops.toList.take ops.size=ops.toList:=zAg (by simp)
def aEe {a d:Nat} (b:((ops[a]?).bind (·.dst))=some d):a < ops.size:=by
 cases c:ops[a]? with
 | none=>rw [c] at b;cases b
 | some f=>exact (zAh.1 c).1
def aEO {n:Nat} (d:((List.range ops.size).all fun a=>decide (a < n)||(List.range n).all fun b=>upB md ops ops.size a b)=true):∀a b,n<=a->a < ops.size->b < n->upB md ops ops.size a b=true:=fun a b f i j=>by
 have c:=zBf.1 d a (zCj.2 i);simp only [zCs.2 f,decide_false,Bool.false_or] at c;exact zBf.1 c b (zCj.2 j)
end
end
end Go.Proofs.YtcoooelofcejbaaGreatDoor
