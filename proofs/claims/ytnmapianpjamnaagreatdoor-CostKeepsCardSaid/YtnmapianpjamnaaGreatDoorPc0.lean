/- Lemmas of the walk. Conditions: each its own. -/
import Derived.WalkKit
import Derived.WalkSpells
import Derived.WalkLawsBesides
import Derived.WalkSmall
import Derived.Lib.Hide
import Derived.Maps.AppendAt
import Derived.Deep.AppendLies
import Derived.Laws.OwnMore
import Derived.OneCell
import Derived.Laws.BytesArg
import Derived.Laws.IdiomStrings
import Derived.ProofKit
import Derived.OpenShut
import Derived.ShutString
import Derived.ChangeOld
import Derived.Carry
import Derived.Laws.BitsLemmas
import Derived.Laws.Bits64
import Derived.Orders
import Derived.BigQuiet
import Derived.Deep.QuietTactic
import Derived.Lib.TrailingZeros
import Derived.LaidMore
import Derived.Lib.LaidTab
import Derived.Stop.Joined
import Derived.SevenTiedAt
import Derived.BigRegion
import Derived.Deep.Cut
import Derived.StillTailTactics
import Derived.LaidEqlPtr
import Derived.Laws.Rows
import Derived.Shelf.SlSortCmp.Kit1
import Derived.Deep.LoopGhost
import Derived.Laws.EntriesVeiled
import Derived.Shelf.SlCmpFuncs.None
import Derived.Lib.AppendZeros
import Derived.Lib.LazyBuf
import Derived.Sort.OwnSortedInts
import Derived.Laws.StructEq
import Derived.Laws.ResultCell
import Derived.Lib.SlBytesConst
import Derived.Deep.CutRange
import Derived.Deep.CutBlock
import Derived.Test.YtnmapianpjamnaaGreatDoorProg
set_option linter.all false
set_option maxRecDepth 100000
set_option maxHeartbeats 1000000
namespace Go.Proofs.YtnmapianpjamnaaGreatDoor
open Tryz
section
open Go.RowKit
instance cP:Coe Nat Value:=⟨fun g=>.pointer (some ⟨g,0,none⟩)⟩
instance cI:Coe Int Value:=⟨fun z=>.int .i64 z⟩
instance cA:Coe Nat Addr:=⟨fun g=>⟨g,0,none⟩⟩
abbrev zAa:=@List.getElem?_eq_getElem
abbrev zAb:=@List.getD_eq_getElem?_getD
abbrev zAc:=@List.getElem?_eq_some_iff
abbrev zAd:=@List.mem_of_getElem?
abbrev zAe:=@List.forall_mem_cons
abbrev zAf:=@List.getElem?_map
abbrev zAg:=@List.take_of_length_le
abbrev zAh:=@Array.getElem?_eq_some_iff
abbrev zAi:=@List.length_append
abbrev zAj:=@List.length_take
abbrev zAk:=@Nat.le_trans
abbrev zAl:=@Nat.lt_of_lt_of_le
abbrev zAm:=@Array.getD_eq_getD_getElem?
abbrev zAn:=@List.getElem?_append_left
abbrev zAo:=@List.getElem?_append_right
abbrev zAp:=@Nat.zero_le
abbrev zAq:=@Array.getElem?_eq_getElem
abbrev zAr:=@List.pairwise_iff_getElem
abbrev zAs:=@Nat.le_refl
abbrev zAt:=@List.length_set
abbrev zAu:=@List.take_append_drop
abbrev zAv:=@List.take_add_one
abbrev zAw:=@List.length_drop
abbrev zAx:=@List.drop_eq_getElem_cons
abbrev zAy:=@List.mem_map
abbrev zAz:=@List.map_append
abbrev zBa:=@Nat.eq_zero_or_pos
abbrev zBb:=@Nat.add_sub_cancel
abbrev zBc:=@List.length_map
abbrev zBd:=@Bool.and_eq_true
abbrev zBe:=@Nat.lt_or_ge
abbrev zBf:=@List.all_eq_true
abbrev zBg:=@List.getElem?_eq_none
abbrev zBh:=@List.countP_le_length
abbrev zBi:=@Nat.zero_add
abbrev zBj:=@List.getElem_mem
abbrev zBk:=@List.eq_nil_of_length_eq_zero
abbrev zBl:=@Nat.mul_one
abbrev zBm:=@List.getElem?_set
abbrev zBn:=@List.countP_cons
abbrev zBo:=@List.mem_iff_getElem
abbrev zBp:=@Nat.pow_le_pow_right
abbrev zBq:=@Nat.add_zero
abbrev zBr:=@Int.toNat_natCast
abbrev zBs:=@List.getElem?_take
abbrev zBt:=@List.getElem?_drop
abbrev zBu:=@Nat.mod_eq_of_lt
abbrev zBv:=@List.count_le_length
abbrev zBw:=@if_neg
abbrev zBx:=@if_pos
abbrev zBy:=@decide_eq_false
abbrev zBz:=@decide_eq_true
abbrev zCa:=@decide_eq_true_eq
abbrev zCb:=@beq_eq_false_iff_ne
abbrev zCc:=@List.count_append
abbrev zCd:=@Array.getElem?_setIfInBounds
abbrev zCe:=@Array.getElem?_setIfInBounds_ne
abbrev zCf:=@List.length_cons
abbrev zCg:=@List.map_map
abbrev zCh:=@List.length_range
abbrev zCi:=@List.mem_range
abbrev zCj:=@Nat.lt_irrefl
abbrev zCk:=@Nat.le_of_lt
abbrev zCl:=@List.append_assoc
abbrev zCm:=@List.mem_append
abbrev zCn:=@beq_iff_eq
abbrev zCo:=@Nat.not_lt
abbrev zCp:=@Nat.add_comm
abbrev zCq:=@Nat.min_eq_left
abbrev zCr:=@Nat.le_of_eq
abbrev zCs:=@List.length_filter_le
abbrev zCt:=@List.mem_filter
def eqx {α:Sort _} (a:α):∃b,a=b:=⟨_,rfl⟩
def tA0 {p:Prop} (h:p:=by repeat' (first|exact kO _ _ | exact iG _|(refine zAe.2 ⟨?_,?_⟩)|(intro p hp;cases hp))):p:=h
def tA1 {p:Prop} (h:p:=by repeat' (first|exact mF _ _ | exact xI _|(refine zAe.2 ⟨?_,?_⟩)|(intro p hp;cases hp))):p:=h
def tA2 {p:Prop} (h:p:=by repeat' (first|exact aEU _ | exact aDZ|(refine zAe.2 ⟨?_,?_⟩)|(intro p hp;cases hp))):p:=h
def tA3 {p:Prop} (h:p:=by repeat' (first|exact kO _ _ | exact iG _ | exact aAe _ _ _ _|(refine zAe.2 ⟨?_,?_⟩)|(intro p hp;cases hp))):p:=h
def gD {w w':World} (a:Below w.drew.heap.size w.drew w'):Below w.heap.size w w':=⟨a.os,a.tape,a.output,a.size,a.block⟩
def oM {p:Prop} (h:p:=by omega):p:=h
def dC {p:Prop} (h:p:=by decide):p:=h
def kR {p:Prop} (h:p:=by kernel_rfl):p:=h
def nL {n:Nat}:n<=n:=zAs n
def bR {B:Nat} {w:World}:Below B w w:=Below.refl B w
def zq1 {α β:Type} {a:β->α->β} {c:β} {b:α} {d:List α}:(b::d).foldl a c=d.foldl a (a c b):=rfl
def zq2 {α β:Type} {b:β->α->β} {a:β}:([]:List α).foldl b a=a:=rfl
def zq3 {α:Type} {c:List α} {b:Nat} {a:α}:c.toArray.setIfInBounds b a=(c.set b a).toArray:=List.setIfInBounds_toArray c b a
def zq4 {α:Type} {b:List α} {c a:α}:(c::b).set 0 a=a::b:=rfl
def zq5 {α:Type} {c:List α} {a b:α} {n:Nat}:(a::c).set (n+1) b=a::c.set n b:=rfl
def lhd {P:Prop} (a:P):Hid P:=Lib.hid a
def hqq2 {a b:Prop} (c:a) (d:b):Hid a/\Hid b:=⟨lhd c,lhd d⟩
def hqq3 {a b c:Prop} (d:a) (f:b) (i:c):Hid a/\Hid b/\Hid c:=⟨lhd d,lhd f,lhd i⟩
def hqq4 {a b c d:Prop} (f:a) (i:b) (j:c) (k:d):Hid a/\Hid b/\Hid c/\Hid d:=⟨lhd f,lhd i,lhd j,lhd k⟩
def hqq5 {a b c d f:Prop} (i:a) (j:b) (k:c) (l:d) (m:f):Hid a/\Hid b/\Hid c/\Hid d/\Hid f:=⟨lhd i,lhd j,lhd k,lhd l,lhd m⟩
def hqq6 {a b c d f i:Prop} (j:a) (k:b) (l:c) (m:d) (o:f) (p:i):Hid a/\Hid b/\Hid c/\Hid d/\Hid f/\Hid i:=⟨lhd j,lhd k,lhd l,lhd m,lhd o,lhd p⟩
def hqq7 {a b c d f i j:Prop} (k:a) (l:b) (m:c) (o:d) (p:f) (q:i) (r:j):Hid a/\Hid b/\Hid c/\Hid d/\Hid f/\Hid i/\Hid j:=⟨lhd k,lhd l,lhd m,lhd o,lhd p,lhd q,lhd r⟩
def hqq8 {a b c d f i j k:Prop} (l:a) (m:b) (o:c) (p:d) (q:f) (r:i) (s:j) (u:k):Hid a/\Hid b/\Hid c/\Hid d/\Hid f/\Hid i/\Hid j/\Hid k:=⟨lhd l,lhd m,lhd o,lhd p,lhd q,lhd r,lhd s,lhd u⟩
def hqq9 {a b c d f i j k l:Prop} (m:a) (o:b) (p:c) (q:d) (r:f) (s:i) (u:j) (v:k) (x:l):Hid a/\Hid b/\Hid c/\Hid d/\Hid f/\Hid i/\Hid j/\Hid k/\Hid l:=⟨lhd m,lhd o,lhd p,lhd q,lhd r,lhd s,lhd u,lhd v,lhd x⟩
def cT {a b:Int} (c:a=b):Ending.returned (.int .i64 a)=Ending.returned (.int .i64 b):=by rw [c]
def aCR {a b:Bool} (c:a=b):Ending.returned (.bool a)=Ending.returned (.bool b):=by rw [c]
def dF {a b:Int} (c:a=b):Value.int .i64 a=Value.int .i64 b:=by rw [c]
def nY {c:IntKind} {a b:Int} (d:a=b):Value.int c a=Value.int c b:=by rw [d]
def aA4 (n a:Int) (d:0 < a):∃c:Nat,(IntKind.u64.wrap n).tmod a=(c:Int)/\(c:Int) < a:=by
 have b:0<=IntKind.u64.wrap n:=by rw [IntKind.wrap_u64];omega
 refine ⟨((IntKind.u64.wrap n).tmod a).toNat,?_,?_⟩;have:=Int.tmod_nonneg a b;omega;have f:=Int.tmod_nonneg a b;have i:=Int.tmod_lt_of_pos (IntKind.u64.wrap n) d;omega
def bv (a:UInt8):Value:=.int .u8 (a.toNat:Int)
def iv (n:Int):Value:=.int .i64 n
def aAs (c:List UInt8):∀a∈c.map bv,a.oneCell'=true:=by
 intro a b;obtain ⟨d,_,rfl⟩:=zAy.1 b;rfl
def mY (a c b:Nat):(⟨a,c,none⟩:Addr).add b=⟨a,c+b,none⟩:=by
 unfold Addr.add;split <;> simp_all
def Rd (w:World) (B sz:Nat) (A:Option Addr) (n:Nat) (xs:List Value):Prop:=
 xs.length=n*sz/\(0 < n->∃a c,A=some ⟨a,c,none⟩/\a < B/\∀b d,xs[b]?=some d->w.cell? ⟨a,c+b,none⟩=some d)
section
variable {w w' : World} {B B' sz n : Nat} {A : Option Addr} {xs : List Value}
def Rd.nil (w:World) (B sz:Nat) (A:Option Addr):Rd w B sz A 0 []:=⟨by simp,fun a=>absurd a oM⟩
def Rd.get {a:Nat} (d:Rd w B 1 A n xs) (l:a < n):∃b c i,A=some ⟨b,c,none⟩/\b < B/\xs[a]?=some i/\w.cell? ⟨b,c+a,none⟩=some i:=by
 obtain ⟨b,c,e,j,k⟩:=d.2 oM;have f:a < xs.length:=by have:=d.1;omega
 exact ⟨b,c,xs[a],e,j,zAa f,k a _ (zAa f)⟩
def Rd.keep (b:Rd w B sz A n xs) (i:∀a:Addr,a.block < B->w'.cell? a=w.cell? a):Rd w' B sz A n xs:=
 ⟨b.1,fun j=>by
   obtain ⟨d,m,e,c,f⟩:=b.2 j;exact ⟨d,m,e,c,fun l o k=>(i _ c).trans (f l o k)⟩⟩
def Rd.mono (a:Rd w B sz A n xs) (hB:B<=B'):Rd w B' sz A n xs:=
 ⟨a.1,fun d=>by
   obtain ⟨b,f,e,i,c⟩:=a.2 d;exact ⟨b,f,e,by omega,c⟩⟩
def Rd.below (a:Rd w B sz A n xs) (b:Below B w w'):Rd w' B sz A n xs:=a.keep fun _ c=>b.cell c
def Rd.drew (a:Rd w B sz A n xs):Rd w.drew B sz A n xs:=a
def Rd.drewN (a:Rd w B sz A n xs) (b:Nat):Rd (w.drewN b) B sz A n xs:=a
def Rd.alloc (b:Rd w B sz A n xs) (hB:B<=w.heap.size) (a:Obj):Rd (w.alloc a) B sz A n xs:=b.below (bR.alloc hB a)
def Rd.of_own {b:Nat} {e:TypeId} {c:Nat} (a:w.ownsRow b e sz (.slice A n c) n xs):Rd w w.heap.size sz A n xs:=by
 refine ⟨a.1,fun i=>?_⟩;obtain ⟨g,o,k,_,f⟩:=a.form i;have d:A=some ⟨g,0,none⟩:=by injection k
 subst d;refine ⟨g,0,rfl,f,fun l m j=>?_⟩;have:=a.cells (g:=g) rfl l m j;rwa [mY] at this
def jY (A:Option Addr) (b a sz:Nat):Option Addr:=if b=a then A else A.map (·.add (a*sz))
def Rd.cut (a:Rd w B sz A n xs) {k cap:Nat} (m:k<=n) (l:n<=cap):Rd w B sz (jY A cap k sz) (n - k) (xs.drop (k*sz)):=by
 refine ⟨by rw [zAw,a.1,Nat.sub_mul],fun o=>?_⟩;obtain ⟨b,i,rfl,c,d⟩:=a.2 oM;rw [jY,zBw oM];refine ⟨b,i+k*sz,by simp [mY],c,fun p j f=>?_⟩;rw [Nat.add_assoc];exact d _ j (by rw [<-f,zBt])
def Rd.cut_hi (b:Rd w B sz A n xs) {k:Nat} (i:k<=n):Rd w B sz A k (xs.take (k*sz)):=by
 have o:k*sz<=n*sz:=Nat.mul_le_mul_right _ i;refine ⟨by rw [zAj,b.1];omega,fun p=>?_⟩;obtain ⟨c,l,rfl,d,f⟩:=b.2 oM;refine ⟨c,l,rfl,d,fun j m a=>f j m ?_⟩;rw [zBs] at a;split at a;exact a
 · cases a
def Rd.cut_hi0 (c:Rd w B sz A n xs) {k cap:Nat} (i:k<=n):Rd w B sz (jY A cap 0 sz) k (xs.take (k*sz)):=by
 have a:=c.cut_hi i;refine ⟨a.1,fun j=>?_⟩;obtain ⟨b,l,rfl,d,f⟩:=a.2 j;refine ⟨b,l,?_,d,f⟩;unfold jY;split <;> simp [mY]
end
section
variable {P : Program} (t e : TypeId) (sz : Nat) (ht : P.underlying t = some (.slice e)) (hs : ∀ w, (sizeOf e).run P w = .ok sz w)
include ht hs
def lQ (A:Option Addr) (n b a:Nat) (f:a<=n) (w:World):
 (Instr.sliceAt t (.slice A n b) (some (.int .i64 (a:Int))) none none).run P w=.ok (.slice (jY A b a sz) (n - a) (b - a)) w:=by
 have c:P.elem t=e:=by simp [Program.elem,ht]
 have d:P.underlying t=some (.slice (P.elem t)):=by rw [c];exact ht
 rw [run_sliceAt_slice (h:=d),run_slice_l (ht:=d) (h0:=oM) (h1:=oM),c,hs];simp [Result.andThen,sliced,jY]
def pU (A:Option Addr) (n a b:Nat) (f:b<=a) (w:World):
 (Instr.sliceAt t (.slice A n a) none (some (.int .i64 (b:Int))) none).run P w=.ok (.slice (jY A a 0 sz) b a) w:=by
 have c:P.elem t=e:=by simp [Program.elem,ht]
 have d:P.underlying t=some (.slice (P.elem t)):=by rw [c];exact ht
 rw [run_sliceAt_slice (h:=d),run_slice_h (ht:=d) (h0:=oM) (h2:=oM),c,hs];simp [Result.andThen,sliced,jY]
def uO (A:Option Addr) (n c b a:Nat) (j:b<=a) (i:a<=c) (w:World):
 (Instr.sliceAt t (.slice A n c) (some (.int .i64 (b:Int))) (some (.int .i64 (a:Int))) none).run P w=.ok (.slice (jY A c b sz) (a - b) (c - b)) w:=by
 have d:P.elem t=e:=by simp [Program.elem,ht]
 have f:P.underlying t=some (.slice (P.elem t)):=by rw [d];exact ht
 rw [run_sliceAt_slice (h:=f),run_slice_lh (ht:=f) (h0:=oM) (h1:=oM) (h2:=oM),d,hs];simp [Result.andThen,sliced,jY]
end
def aM {w:World} {c:Nat} {e:TypeId} {sz:Nat} {f:Value} {n:Nat} {xs:List Value} (b:w.ownsRow c e sz f n xs):
 ∃A d,f=.slice A n d/\n<=d/\(∀a,A=some a->c<=a.block/\a.block < w.heap.size):=by
 rcases b.2 with ⟨rfl,rfl⟩|⟨g,i,m,rfl,j,k,l,_⟩;exact ⟨none,0,rfl,zAs _,fun a b=>by cases b⟩
 · exact ⟨_,i,rfl,l,fun a b=>by cases b;exact ⟨j,(zAh.1 k).1⟩⟩
def Bk (w:World) (g:Nat) (t:TypeId) (cs:Array Value):Prop:=w.heap[g]?=some (.cells cs t (0,0))
section
variable {w w' : World} {g : Nat} {t : TypeId} {cs : Array Value}
def Bk.lt (a:Bk w g t cs):g < w.heap.size:=lt_of_block a
def Bk.cell (b:Bk w g t cs) (a:Nat):w.cell? ⟨g,a,none⟩=cs[a]?:=cell_of_row w g a cs t (0,0) b
def Bk.frozen (b:Bk w g t cs) (a:Nat):w.frozen? ⟨g,a,none⟩=false:=frozen_of_row w g a cs t b
def Bk.new (w:World) (t:TypeId) (cs:Array Value):Bk (w.alloc (.cells cs t)) w.heap.size t cs:=heap_alloc_new w _
def Bk.drew (a:Bk w g t cs):Bk w.drew g t cs:=a
def Bk.drewN (a:Bk w g t cs) (n:Nat):Bk (w.drewN n) g t cs:=a
def Bk.alloc (a:Bk w g t cs) (b:Obj):Bk (w.alloc b) g t cs:=(Below.heap_alloc w b g a.lt).trans a
def Bk.set (b:Bk w g t cs) (i:Nat) (a:Value):Bk (w.setCell ⟨g,i,none⟩ a) g t (cs.setIfInBounds i a):=heap_setCell_same w g i cs t a b
def Bk.far (b:Bk w g t cs) {p:Addr} (c:g≠p.block) (a:Value):Bk (w.setCell p a) g t cs:=(heap_setCell_other w p g a c).trans b
def Bk.below {B:Nat} (a:Bk w g t cs) (b:Below B w w') (c:g < B):Bk w' g t cs:=(b.block g c).trans a
def Bk.grown {row:Option Nat} (a:Bk w g t cs) (b:w.grownBy w' row) (c:some g≠row):Bk w' g t cs:=(b.block g a.lt c).trans a
def Bk.ne {b:Nat} {d:TypeId} {f:Array Value} (c:Bk w g t cs) (a:Bk w b d f) (i:t≠d):g≠b:=by
 rintro rfl;unfold Bk at c a;rw [c] at a;injection a with a;injection a with _ ht;exact i ht
end
structure Keep (F:Nat->Prop) (w w':World):Prop where
 os:w'.os=w.os
 tape:w'.tape=w.tape
 output:w'.output=w.output
 size:w.heap.size<=w'.heap.size
 block:∀k,k < w.heap.size->¬F k->w'.heap[k]?=w.heap[k]?
def kD {F:Nat->Prop} {w w':World} (a:Keep F w.drew w'):Keep F w w':=⟨a.os,a.tape,a.output,a.size,a.block⟩
section
variable {F G : Nat -> Prop} {w w1 w' : World}
def Keep.refl (F:Nat->Prop) (w:World):Keep F w w:=⟨rfl,rfl,rfl,zAs _,fun _ _ _=>rfl⟩
def Keep.trans (a:Keep F w w1) (b:Keep F w1 w'):Keep F w w':=
 ⟨b.os.trans a.os,b.tape.trans a.tape,b.output.trans a.output,zAk a.size b.size,fun f c d=>(b.block f (zAl c a.size) d).trans (a.block f c d)⟩
def Keep.trans' (a:Keep F w w1) (b:Keep G w1 w') (j:∀c,c < w.heap.size->G c->F c):Keep F w w':=
 ⟨b.os.trans a.os,b.tape.trans a.tape,b.output.trans a.output,zAk a.size b.size,fun f d i=>(b.block f (zAl d a.size) (fun g=>i (j f d g))).trans (a.block f d i)⟩
def Keep.mono (a:Keep F w w') (i:∀b,b < w.heap.size->F b->G b):Keep G w w':=⟨a.os,a.tape,a.output,a.size,fun d c j=>a.block d c (fun f=>j (i d c f))⟩
def Keep.of_below (a:Below w.heap.size w w'):Keep F w w':=⟨a.os,a.tape,a.output,a.size,fun c b _=>a.block c b⟩
def Keep.to_below (a:Keep F w w') {B:Nat} (hB:B<=w.heap.size) (d:∀b,b < B->¬F b):Below B w w':=⟨a.os,a.tape,a.output,a.size,fun c f=>a.block c oM (d c f)⟩
def Keep.setCell (a:Keep F w w1) {p:Addr} (b:F p.block∨w.heap.size<=p.block) (f:Value):Keep F w (w1.setCell p f):=
 ⟨a.os,a.tape,a.output,by simpa [World.setCell] using a.size,fun d i c=>(heap_setCell_other w1 p d f (by
  rintro rfl;rcases b with b | b;exact c b
  · omega)).trans (a.block d i c)⟩
def Keep.alloc (a:Keep F w w1) (d:Obj):Keep F w (w1.alloc d):=
 ⟨a.os,a.tape,a.output,zAk a.size (by simp),fun c b f=>(Below.heap_alloc w1 d c (zAl b a.size)).trans (a.block c b f)⟩
def Keep.drew (a:Keep F w w1):Keep F w w1.drew:=⟨a.os,a.tape,a.output,a.size,a.block⟩
def Keep.drewN (a:Keep F w w1) (n:Nat):Keep F w (w1.drewN n):=⟨a.os,a.tape,a.output,a.size,a.block⟩
def Keep.grown (a:Keep F w w1) {row:Option Nat} (b:w1.grownBy w' row) (k:∀d,row=some d->F d∨w.heap.size<=d):Keep F w w':=
 ⟨b.os.trans a.os,b.tape.trans a.tape,b.output.trans a.output,zAk a.size b.size,fun c i j=>
  (b.block c (zAl i a.size) (fun e=>by rcases k c e.symm with f | f;exact j f;omega)).trans (a.block c i j)⟩
def Keep.cell (a:Keep F w w') {p:Addr} (c:p.block < w.heap.size) (b:¬F p.block):w'.cell? p=w.cell? p:=World.cell?_of_block (a.block p.block c b)
def Keep.bk {g:Nat} {t:TypeId} {cs:Array Value} (b:Keep F w w') (a:Bk w g t cs) (c:¬F g):Bk w' g t cs:=(b.block g a.lt c).trans a
def Keep.rd {B sz n:Nat} {A:Option Addr} {xs:List Value} (b:Keep F w w') (f:Rd w B sz A n xs) (hB:B<=w.heap.size) (c:∀a,a < B->¬F a):Rd w' B sz A n xs:=
 f.keep fun i d=>b.cell oM (c _ d)
end
section
variable {P : Program} (w : World)
def mI (c:Nat) (t k e:TypeId) (j:TypeInfo) (sz:Nat) (ht:P.underlying t=some (.slice e)) (b:P.info? e=some j)
 (a:Value) (n:Nat) (xs:List Value) (i:w.ownsRow c e sz a n xs) (d:Nat):(Builtin.append_ #[t,t] k #[a,.slice none 0 d]).run P w=.ok a w:=by
 rcases i.2 with ⟨rfl,rfl⟩|⟨g,l,m,rfl,_,_,f,_⟩
 · simp [Builtin.append_,run_underlying ht,sizeOf,typeInfo,b,Builtin.lenOf,Builtin.firstCells]
 · simp [Builtin.append_,run_underlying ht,sizeOf,typeInfo,b,Builtin.lenOf,Builtin.firstCells,f,storeCells]
def rZ (k:Nat) (t u e:TypeId) (f:TypeInfo) (v:Value) (sz p:Nat) (ht:P.underlying t=some (.slice e)) (y:P.info? e=some f) (U:f.zero=some v)
 (S:f.size=sz) (K:f.bytes=p) (V:v.cells.size=sz) (T:0 < sz)
 (d:Value) (n:Nat) (xs:List Value) (s:w.ownsRow k e sz d n xs)
 (B:Nat) (A:Option Addr) (a q:Nat) (c:List Value) (m:Rd w B sz A a c) (C:∀i∈c,i.oneCell'=true)
 (I:n+a<=maxLen) (L:(n+a)*p<=140737488355328) (J:k<=w.heap.size):
 ∃j w',(Builtin.append_ #[t,t] u #[d,.slice A a q]).run P w=.ok j w'/\w'.ownsRow k e sz j (n+a) (xs++c)/\w.grownBy w' d.ownBlock/\
  (j.ownBlock=d.ownBlock∨j.ownBlock=some w.heap.size):=by
 rcases A with _ | x
 · have O:a=0:=by
    rcases zBa a with b | b;exact b
    · obtain ⟨_,_,l,_⟩:=m.2 b;cases l
   subst O;have r:c= []:=zBk (by simpa using m.1);subst r;exact ⟨d,w,mI w k t u e f sz ht y d n xs s q,by simpa using s,World.grownBy.refl w _,.inl rfl⟩
 · have N:∀o i,c[o]?=some i->w.cell? (x.add o)=some i:=by
    intro o i z;rcases zBa a with b | b
    · subst b;have r:c= []:=zBk (by simpa using m.1);subst r;simp at z
    obtain ⟨W,X,l,_,M⟩:=m.2 b;injection l with l;subst l;rw [mY];exact M o i z
   obtain ⟨j,w',R,D,E,_,H⟩:=run_append_own_at (P:=P) w k t u e f v sz p ht y U S K V T d n xs s x a q c m.1 N C I L J;exact ⟨j,w',R,D,E,H⟩
def fY {k:Oper} {f:Act} {o:Act->World->Prop} {Q:Exit->Act->World->Prop} (q r:Operand) (t:TypeId)
 (I:k.op=.call { callee:=.builtin .append,args:=#[q,r],argTypes:=#[t,t] })
 (i:Nat) (e:TypeId) (c:TypeInfo) (m:Value) (sz l:Nat) (ht:P.underlying t=some (.slice e)) (H:P.info? e=some c) (R:c.zero=some m)
 (M:c.size=sz) (D:c.bytes=l) (S:m.cells.size=sz) (N:0 < sz)
 (d:Value) (n:Nat) (xs:List Value) (hs:f.eval q=d) (J:w.ownsRow i e sz d n xs)
 (B:Nat) (A:Option Addr) (a p:Nat) (j:List Value) (O:f.eval r=.slice A a p) (K:Rd w B sz A a j) (u:∀T∈j,T.oneCell'=true)
 (z:n+a<=maxLen) (E:(n+a)*l<=140737488355328) (C:i<=w.heap.size)
 (s:∀b w',w'.ownsRow i e sz b (n+a) (xs++j)->w.grownBy w' d.ownBlock->(b.ownBlock=d.ownBlock∨b.ownBlock=some w.heap.size)->o (f.put k.dst b) w'):k.wp P f w o Q:=by
 obtain ⟨b,w',L,v,x,y⟩:=rZ (P:=P) w i t k.type e c m sz l ht H R M D S N d n xs J B A a p j K u z E C;unfold Oper.wp execOp;simp only [I,resolve,invoke,builtin,Sem.run_bind,Sem.run_pure,Result.andThen_ok,List.map_toArray,List.map_cons,List.map_nil,hs,O,L];exact s b w' v x y
def bG {ops:Array Oper} {r:List Oper} {k:Oper} {f:Act} {Q:Exit->Act->World->Prop} (I:k.guard=none) (m o:Operand) (t:TypeId)
 (K:k.op=.call { callee:=.builtin .append,args:=#[m,o],argTypes:=#[t,t] })
 (i:Nat) (e:TypeId) (c:TypeInfo) (p:Value) (sz l:Nat) (ht:P.underlying t=some (.slice e)) (J:P.info? e=some c) (S:c.zero=some p)
 (N:c.size=sz) (E:c.bytes=l) (T:p.cells.size=sz) (O:0 < sz)
 (d:Value) (n:Nat) (xs:List Value) (hs:f.eval m=d) (L:w.ownsRow i e sz d n xs)
 (B:Nat) (A:Option Addr) (a q:Nat) (j:List Value) (R:f.eval o=.slice A a q) (M:Rd w B sz A a j) (u:∀U∈j,U.oneCell'=true)
 (z:n+a<=maxLen) (H:(n+a)*l<=140737488355328) (D:i<=w.heap.size)
 (s:∀b w',w'.ownsRow i e sz b (n+a) (xs++j)->w.grownBy w' d.ownBlock->(b.ownBlock=d.ownBlock∨b.ownBlock=some w.heap.size)->wpList P ops Q r (f.put k.dst b) w'):wpList P ops Q (k::r) f w:=
 wpList_plain I fun _ C=>fY w m o t K i e c p sz l ht J S N E T O d n xs hs L B A a q j R M u z H D fun b w' v x y=>C _ _ (s b w' v x y)
end
def Rd.new_ (w:World) (e:TypeId) (sz:Nat) (cs:Array Value) (hs:cs.size=sz):Rd (w.alloc (.cells cs e)) (w.heap.size+1) sz (some ⟨w.heap.size,0,none⟩) 1 cs.toList:=by
 refine ⟨by simp [hs],fun _=>⟨_,0,rfl,by omega,fun b c a=>?_⟩⟩;rw [(Bk.new w e cs).cell];simpa using a
def Rd.made (w:World) (e:TypeId) (sz n:Nat) (cs:Array Value) (hs:cs.size=n*sz):Rd (w.alloc (.cells cs e)) (w.alloc (.cells cs e)).heap.size sz (some ⟨w.heap.size,0,none⟩) n cs.toList:=by
 refine ⟨by simp [hs],fun _=>⟨_,0,rfl,by simp,fun b c a=>?_⟩⟩;rw [(Bk.new w e cs).cell];simpa using a
def Rd.made' (w:World) (e:TypeId) (sz n:Nat) (cs:Array Value) (g:Nat) (hs:cs.size=n*sz) (a:g=w.heap.size):Rd (w.alloc (.cells cs e)) (w.alloc (.cells cs e)).heap.size sz (some ⟨g,0,none⟩) n cs.toList:=by
 subst a;exact Rd.made w e sz n cs hs
structure Made (w:World) (B:Nat) (e:TypeId) (sz:Nat) (A:Option Addr) (n c:Nat) (xs:List Value):Prop where
 own:w.ownsRow B e sz (.slice A n c) n xs
 rd:Rd w w.heap.size sz A n xs
 cap:n<=c
 max:c<=maxLen
def bE {w:World} {B:Nat} {e:TypeId} {sz:Nat} {c:Value} {n:Nat} {xs:List Value} (a:w.ownsRow B e sz c n xs):∃A b,c=.slice A n b/\Made w B e sz A n b xs:=by
 rcases a.2 with ⟨rfl,rfl⟩|⟨g,d,j,rfl,k,l,i,f,_⟩;exact ⟨none,0,rfl,a,Rd.of_own a,zAs _,zAp _⟩;exact ⟨_,d,rfl,a,Rd.of_own a,i,f⟩
def Made.below {w w':World} {B:Nat} {e:TypeId} {sz:Nat} {A:Option Addr} {n c:Nat} {xs:List Value} (b:Made w B e sz A n c xs) (a:Below w.heap.size w w'):Made w' B e sz A n c xs:=
 ⟨b.own.kept (row:=none) ⟨a.os,a.tape,a.output,a.size,fun f d _=>a.block f d⟩ (by cases A <;> simp [Value.ownBlock]),(b.rd.below a).mono a.size,b.cap,b.max⟩
def Made.len {w:World} {B:Nat} {e:TypeId} {A:Option Addr} {n a:Nat} {xs:List Value} (b:Made w B e 1 A n a xs):xs.length=n:=by have:=b.rd.1;omega
def tL (w:World) (e:TypeId) (sz:Nat):(w.alloc (.cells #[] e)).ownsRow w.heap.size e sz (.slice (some w.heap.size) 0 0) 0 []:=
 World.ownsRow_made w #[] 0 nL (zAp _) (by simp)
def aO {w w':World} {B:Nat} {e:TypeId} {sz n:Nat} {b:Value} {xs:List Value} (c:w.ownsRow B e sz b n xs) (a:Below w.heap.size w w'):w'.ownsRow B e sz b n xs:=
 c.kept (row:=none) ⟨a.os,a.tape,a.output,a.size,fun f d _=>a.block f d⟩ (by cases b.ownBlock <;> simp)
def aR {w:World} {b:Nat} {e t:TypeId} {sz n g:Nat} {a:Value} {xs:List Value} {cs:Array Value} (d:w.ownsRow b e sz a n xs) (i:Bk w g t cs) (k:e≠t):some g≠a.ownBlock:=by
 rcases d.2 with ⟨rfl,_⟩|⟨c,l,m,rfl,_,j,_⟩
 · simp [Value.ownBlock]
 intro f;have:g=c:=(by simpa [Value.ownBlock] using f);subst this;exact Bk.ne (t:=e) j i k rfl
def dO {w:World} {B B':Nat} {e:TypeId} {sz n:Nat} {c:Value} {xs:List Value} (b:w.ownsRow B e sz c n xs) (hB:B'<=B):w.ownsRow B' e sz c n xs:=by
 refine ⟨b.1,?_⟩;rcases b.2 with a |⟨g,d,f,a,i,j⟩;exact .inl a;exact .inr ⟨g,d,f,a,zAk hB i,j⟩
def qM {w w':World} {c:Obj} {row:Option Nat} (a:(w.alloc c).grownBy w' row):w.grownBy w' row:=
 ⟨a.os,a.tape,a.output,zAk (by simp) a.size,fun b d f=>(a.block b (by simp;omega) f).trans (Below.heap_alloc w c b d)⟩
def cW {P:Program} {w:World} {ops:Array Oper} {p:List Oper} {i:Oper} {d:Act} {Q:Exit->Act->World->Prop} (cs:Array Value) (C:i.guard=none) (k l:Operand) (t:TypeId)
 (E:i.op=.call { callee:=.builtin .append,args:=#[k,l],argTypes:=#[t,t] })
 (f:Nat) (e:TypeId) (b:TypeInfo) (m:Value) (sz j:Nat) (ht:P.underlying t=some (.slice e)) (D:P.info? e=some b) (L:b.zero=some m)
 (I:b.size=sz) (x:b.bytes=j) (M:m.cells.size=sz) (J:0 < sz)
 (c:Value) (n:Nat) (xs:List Value) (hs:d.eval k=c) (H:w.ownsRow f e sz c n xs)
 (K:d.eval l=.slice (some w.heap.size) 1 1) (z:cs.size=sz) (r:∀N∈cs.toList,N.oneCell'=true)
 (v:n+1<=maxLen) (y:(n+1)*j<=140737488355328) (O:f<=w.heap.size)
 (q:∀a w',w'.ownsRow f e sz a (n+1) (xs++cs.toList)->w.grownBy w' c.ownBlock->w.heap.size < w'.heap.size->(a.ownBlock=c.ownBlock∨a.ownBlock=some (w.heap.size+1))->wpList P ops Q p (d.put i.dst a) w'):wpList P ops Q (i::p) d (w.alloc (.cells cs e)):=
 bG _ C k l t E f e b m sz j ht D L I x M J c n xs hs (H.alloc _) _ _ 1 1 cs.toList K (Rd.new_ w e sz cs z) r v y (by simp;omega)
  fun a w' s o u=>q a w' s (qM o) (by have:=o.size;simp at this;omega) (by simpa using u)
def cL {B:Nat} {w0 w w':World} {e:TypeId} {sz n:Nat} {a:Value} {xs:List Value} (b:Below B w0 w) (f:w.ownsRow B e sz a n xs) (c:w.grownBy w' a.ownBlock) (hB:B<=w.heap.size):Below B w0 w':=
 b.grown c hB fun i d=>(f.lt i d).1
end
section
def aV (b n:Nat):Nat:=(List.range n).countP (fun a=>b.testBit a)
def kV (a:Nat):aV a 0=0:=rfl
def cM (a n:Nat):aV a (n+1)=aV a n+if a.testBit n then 1 else 0:=by
 unfold aV;rw [List.range_succ,List.countP_append,List.countP_singleton]
def kW (a n:Nat):aV a n<=n:=by
 induction n with
 | zero=>exact zAs _
 | succ n b=>
   rw [cM];split <;> omega
def xU (b n a:Nat):aV b (n+a)=aV b n+aV (b >>> n) a:=by
 induction a with
 | zero=>simp [kV]
 | succ a c=>
   rw [<-Nat.add_assoc,cM,c,cM,Nat.testBit_shiftRight];omega
def xT (a n:Nat):aV (a % 2 ^ n) n=aV a n:=by
 unfold aV;apply List.countP_congr;intro c b;have:=zCi.1 b;simp [Nat.testBit_mod_two_pow,this]
def dW (A d k c a:Nat) (p:d < 256) (hs:a<=8) (l:c < 2 ^(8 - a)):((256*A+d)>>> a)&&&(256*k+c)=256*((A >>> a)&&& k)+((d >>> a)&&& c):=by
 apply Nat.eq_of_testBit_eq;intro b;have m:c < 2 ^ 8:=zAl l (zBp dC oM);have o:((d >>> a)&&& c) < 2 ^ 8:=Nat.lt_of_le_of_lt Nat.and_le_right m;rw [Nat.testBit_and,Nat.testBit_shiftRight,show (256:Nat)=2 ^ 8 by decide,Nat.testBit_two_pow_mul_add _ (by simpa using p),Nat.testBit_two_pow_mul_add _ m,Nat.testBit_two_pow_mul_add _ o];by_cases j:b < 8
 · by_cases f:a+b < 8
   · simp [j,f,Nat.testBit_and]
   · have i:c.testBit b=false:=Nat.testBit_lt_two_pow (zAl l (zBp dC oM));simp [j,f,Nat.testBit_and,i]
 · have f:¬(a+b < 8):=oM;have i:a+b - 8=a+(b - 8):=oM;simp [j,f,i,Nat.testBit_and]
def b1 (a:Nat):Nat:=(a >>> 1&&& 85)+(a&&& 85)
def b2 (a:Nat):Nat:=(a >>> 2&&& 51)+(a&&& 51)
def aFN:∀a:Fin 256,b1 a.val < 256/\b2 (b1 a.val)/ 16<=4/\b2 (b1 a.val)% 16<=4/\b2 (b1 a.val)% 16+b2 (b1 a.val)/ 16=aV a.val 8:=by decide+kernel
def yH (a:Nat) (b:a < 256):b1 a < 256/\b2 (b1 a)/ 16<=4/\b2 (b1 a)% 16<=4/\b2 (b1 a)% 16+b2 (b1 a)/ 16=aV a 8:=aFN ⟨a,b⟩
def bT (a b c d f i j k:Nat):Nat:=256*(256*(256*(256*(256*(256*(256*(256*0+k)+j)+i)+f)+d)+c)+b)+a
def lU (d f i j k l m o b a:Nat) (p:d < 256) (q:f < 256) (r:i < 256) (s:j < 256) (u:k < 256) (v:l < 256) (x:m < 256) (y:o < 256) (hs:b<=8) (c:a < 2 ^(8 - b)):
 (bT d f i j k l m o >>> b)&&& bT a a a a a a a a=bT (d >>> b&&& a) (f >>> b&&& a) (i >>> b&&& a) (j >>> b&&& a) (k >>> b&&& a) (l >>> b&&& a) (m >>> b&&& a) (o >>> b&&& a):=by
 unfold bT;rw [dW _ _ _ _ _ p hs c,dW _ _ _ _ _ q hs c,dW _ _ _ _ _ r hs c,dW _ _ _ _ _ s hs c,dW _ _ _ _ _ u hs c,dW _ _ _ _ _ v hs c,dW _ _ _ _ _ x hs c,dW _ _ _ _ _ y hs c];simp
def nZ (b c d f i j k l a:Nat) (m:b < 256) (o:c < 256) (p:d < 256) (q:f < 256) (r:i < 256) (s:j < 256) (u:k < 256) (v:l < 256) (x:a < 256):
 bT b c d f i j k l&&& bT a a a a a a a a=bT (b&&& a) (c&&& a) (d&&& a) (f&&& a) (i&&& a) (j&&& a) (k&&& a) (l&&& a):=by
 have:=lU b c d f i j k l 0 a m o p q r s u v oM (by simpa using x);simpa using this
def gJ (a b c d f i j k l m o p q r s u:Nat):
 bT a b c d f i j k+bT l m o p q r s u=bT (a+l) (b+m) (c+o) (d+p) (f+q) (i+r) (j+s) (k+u):=by
 unfold bT;omega
def xG (a:Nat):Nat:=
 let b:=(a >>> 1&&& 6148914691236517205)+(a&&& 6148914691236517205)
 let c:=(b >>> 2&&& 3689348814741910323)+(b&&& 3689348814741910323)
 (c >>> 4+c)&&& 1085102592571150095
def aDo (a:Nat) (b:a < 18446744073709551616):a=bT (a % 256) (a / 256 % 256) (a / 65536 % 256) (a / 16777216 % 256) (a / 4294967296 % 256) (a / 1099511627776 % 256) (a / 281474976710656 % 256) (a / 72057594037927936 % 256):=by
 unfold bT;omega
def aAc (a b c d f i j k:Nat) (x:a < 256) (y:b < 256) (z:c < 256) (C:d < 256) (D:f < 256) (E:i < 256) (H:j < 256) (I:k < 256):
 xG (bT a b c d f i j k)=bT (aV a 8) (aV b 8) (aV c 8) (aV d 8) (aV f 8) (aV i 8) (aV j 8) (aV k 8):=by
 have X:(6148914691236517205:Nat)=bT 85 85 85 85 85 85 85 85:=dC;have Z:(3689348814741910323:Nat)=bT 51 51 51 51 51 51 51 51:=dC;have a0:(1085102592571150095:Nat)=bT 15 15 15 15 15 15 15 15:=dC;obtain ⟨J,a1,ah,a9⟩:=yH a x;obtain ⟨K,a2,ai,aa⟩:=yH b y;obtain ⟨L,a3,aj,ab⟩:=yH c z;obtain ⟨M,a4,ak,ac⟩:=yH d C;obtain ⟨N,a5,al,ad⟩:=yH f D;obtain ⟨O,a6,am,ae⟩:=yH i E;obtain ⟨R,a7,an,af⟩:=yH j H;obtain ⟨S,a8,ao,ag⟩:=yH k I;have U:(bT a b c d f i j k >>> 1&&& 6148914691236517205)+(bT a b c d f i j k&&& 6148914691236517205)=bT (b1 a) (b1 b) (b1 c) (b1 d) (b1 f) (b1 i) (b1 j) (b1 k):=by rw [X,lU _ _ _ _ _ _ _ _ 1 85 x y z C D E H I oM dC,nZ _ _ _ _ _ _ _ _ 85 x y z C D E H I oM,gJ];rfl
 have V:(bT (b1 a) (b1 b) (b1 c) (b1 d) (b1 f) (b1 i) (b1 j) (b1 k)>>> 2&&& 3689348814741910323)+(bT (b1 a) (b1 b) (b1 c) (b1 d) (b1 f) (b1 i) (b1 j) (b1 k)&&& 3689348814741910323)=bT (b2 (b1 a)) (b2 (b1 b)) (b2 (b1 c)) (b2 (b1 d)) (b2 (b1 f)) (b2 (b1 i)) (b2 (b1 j)) (b2 (b1 k)):=by rw [Z,lU _ _ _ _ _ _ _ _ 2 51 J K L M N O R S oM dC,nZ _ _ _ _ _ _ _ _ 51 J K L M N O R S oM,gJ];rfl
 have W:∀u l m o p q r s:Nat,u / 16<=4->u % 16<=4->l / 16<=4->l % 16<=4->m / 16<=4->m % 16<=4->o / 16<=4->o % 16<=4->p / 16<=4->p % 16<=4->q / 16<=4->q % 16<=4->r / 16<=4->r % 16<=4->s / 16<=4->s % 16<=4->
  (bT u l m o p q r s >>> 4+bT u l m o p q r s)&&& 1085102592571150095=bT (u % 16+u / 16) (l % 16+l / 16) (m % 16+m / 16) (o % 16+o / 16) (p % 16+p / 16) (q % 16+q / 16) (r % 16+r / 16) (s % 16+s / 16):=by
  intro u l m o p q r s ap az aq aA ar aB au aC av aD aw aE ax aF ay aG;have T:bT u l m o p q r s >>> 4=bT (u / 16+16*(l % 16)) (l / 16+16*(m % 16)) (m / 16+16*(o % 16)) (o / 16+16*(p % 16)) (p / 16+16*(q % 16)) (q / 16+16*(r % 16)) (r / 16+16*(s % 16)) (s / 16):=by rw [Nat.shiftRight_eq_div_pow];unfold bT;omega
  have Y:∀v:Nat,v&&& 15=v % 16:=fun v=>Nat.and_two_pow_sub_one_eq_mod v 4;rw [T,gJ,a0,nZ _ _ _ _ _ _ _ _ 15 oM oM oM oM oM oM oM oM oM];simp only [Y];congr 1 <;> omega
 unfold xG;simp only;rw [U,V,W _ _ _ _ _ _ _ _ a1 ah a2 ai a3 aj a4 ak a5 al a6 am a7 an a8 ao,a9,aa,ab,ac,ad,ae,af,ag]
def aCA (k j i f d c b a:Nat) (x:k<=8) (y:j<=8) (z:i<=8) (C:f<=8) (D:d<=8) (E:c<=8) (H:b<=8) (I:a<=8) (l m q:Nat) (o:l=bT k j i f d c b a+bT k j i f d c b a / 256) (p:m=l+l / 65536) (r:q=m+m / 4294967296):
 q % 128=k+j+i+f+d+c+b+a/\q < 18446744073709551616:=by
 have s:bT k j i f d c b a / 256=bT j i f d c b a 0:=by unfold bT;omega
 rw [s,gJ] at o;have u:l / 65536=bT (i+f) (f+d) (d+c) (c+b) (b+a) (a+0) 0 0:=by rw [o];unfold bT;omega
 rw [u,o,gJ] at p;have v:m / 4294967296=bT (d+c+(b+a)) (c+b+(a+0)) (b+a+0) (a+0+0) 0 0 0 0:=by rw [p];unfold bT;omega
 rw [v,p,gJ] at r;unfold bT at r;omega
def aAq (a:Nat):aV a 64=aV (a % 256) 8+aV (a / 256 % 256) 8+aV (a / 65536 % 256) 8+aV (a / 16777216 % 256) 8+aV (a / 4294967296 % 256) 8+aV (a / 1099511627776 % 256) 8+aV (a / 281474976710656 % 256) 8+aV (a / 72057594037927936 % 256) 8:=by
 have b:=fun c=>xT c 8;simp only [show (2:Nat)^ 8=256 by decide] at b;simp only [b];rw [show (64:Nat)=8+(8+(8+(8+(8+(8+(8+8)))))) by decide];simp only [xU];simp only [Nat.shiftRight_eq_div_pow,Nat.div_div_eq_div_mul,show (2:Nat)^ 8=256 by decide,Nat.reduceMul];omega
def aFH (a:Nat) (k:a < 18446744073709551616) (c d f:Nat) (i:c=xG a+xG a / 256) (l:d=c+c / 65536) (m:f=d+d / 4294967296):f % 128=aV a 64/\f < 18446744073709551616:=by
 have e:=aDo a k;have j:=aAc (a % 256) (a / 256 % 256) (a / 65536 % 256) (a / 16777216 % 256) (a / 4294967296 % 256) (a / 1099511627776 % 256) (a / 281474976710656 % 256) (a / 72057594037927936 % 256) oM oM oM oM oM oM oM oM;rw [<-e] at j;rw [j] at i;have b:=fun o=>kW o 8;rw [aAq a];exact aCA _ _ _ _ _ _ _ _ (b _) (b _) (b _) (b _) (b _) (b _) (b _) (b _) c d f i l m
end
section
open Go.RowKit Go
section
variable {P : Program} {ops : Array Oper} {Q : Exit -> Act -> World -> Prop} {md : Region.Mode}
def mM (md:Region.Mode) (ops:Array Oper) (a t:Nat):Bool:=
 (List.range ops.size).all fun b=>match ops[b]? with
    | some c=>c.dst != some t||b==a||c.after.toList.any (fun e=>Region.binds md e&&e.on==a)
    | none=>true
def fM (md:Region.Mode) (ops:Array Oper) (n:Nat):Bool:=
 (List.range ops.size).all fun a=>match ops[a]? with
    | some d=>d.after.toList.all (fun e=> !Region.binds md e||decide (e.on < a))&&
     (match d.dst with | some b=>decide (b < n)&&(List.range ops.size).all (fun c=>c==a||((ops[c]?).bind (·.dst))!= some b)| none=>true)
    | none=>true
def cX {n:Nat} (m:fM md ops n=true) {b:Nat} {i:Oper} (k:ops[b]?=some i):
 (∀e∈i.after,Region.binds md e=true->e.on < b)/\∀c,i.dst=some c->c < n/\∀a j,ops[a]?=some j->j.dst=some c->a=b:=by
 have s:b < ops.size:=(zAh.1 k).1;have d:=zBf.1 m b (zCi.2 s);simp only [k,zBd] at d;refine ⟨fun e q o=>?_,fun c p=>?_⟩;have:=zBf.1 d.1 e (Array.mem_toList_iff.2 q);simpa [o] using this;have f:=d.2;simp only [p,zBd,zCa] at f;refine ⟨f.1,fun a j l u=>?_⟩;have r:a < ops.size:=(zAh.1 l).1;have:=zBf.1 f.2 a (zCi.2 r);simp only [l,Option.bind_some,u,Bool.or_eq_true,zCn,bne_self_eq_false,Bool.false_eq_true,or_false] at this;exact this
def pC {d t:Nat} (j:mM md ops d t=true) {b:Nat} {f:Oper} (i:ops[b]?=some f) (k:f.dst=some t):
 b=d∨∃e∈f.after,Region.binds md e=true/\e.on=d:=by
 have m:b < ops.size:=(zAh.1 i).1;have a:=zBf.1 j b (zCi.2 m);simp only [i,k,Bool.or_eq_true,zCn,bne_self_eq_false,Bool.false_eq_true,false_or] at a;rcases a with a | a;exact .inl a;obtain ⟨e,l,c⟩:=List.any_eq_true.1 a;simp only [zBd,zCn] at c;exact .inr ⟨e,Array.mem_toList_iff.1 l,c.1,c.2⟩
structure Loose (md:Region.Mode) (ops:Array Oper) (S:World->World->Prop) (V:Nat->Value->World->Prop) (a0:Act) (W0:World) (listed:Array Bool) (a:Act) (w:World):Prop where
 world:S W0 w
 size:a.tmps.size=a0.tmps.size
 defers:a.defers=a0.defers
 old:∀t,(∀k p,ops[k]?=some p->p.dst=some t->listed.getD k false=false)->a.tmps.getD t undef=a0.tmps.getD t undef
 val:∀i o d,ops[i]?=some o->listed.getD i false=true->o.dst=some d->V i (a.tmps.getD d undef) w
 shut:∀k p,ops[k]?=some p->listed.getD k false=true->∀e∈p.after,Region.binds md e=true->listed.getD e.on false=true
def aX (b:Array Bool) (a:Nat) (d:a < b.size) (c:Bool):(b.setIfInBounds a true).getD a c=true:=by simp [d]
def dJ (f:Array Bool) (b a:Nat) (c:(f.setIfInBounds b true).getD a false=true):a=b∨f.getD a false=true:=by
 by_cases d:b=a;exact .inl d.symm;rw [getD_set_ne false d] at c;exact .inr c
def dH (P:Program) (ops:Array Oper) (Q:Exit->Act->World->Prop) (md:Region.Mode) (f:World->World->Prop) (i:Nat->Value->World->Prop) (b:Act) (o:World) (c:Nat) (k:Oper):Prop:=
 ∀a w,f o w->a.tmps.size=b.tmps.size->a.defers=b.defers->
    (∀t,mM md ops c t=true->a.tmps.getD t undef=b.tmps.getD t undef)->
    (∀e∈k.after,Region.binds md e=true->∀l j,ops[e.on]?=some l->l.dst=some j->i e.on (a.tmps.getD j undef) w)->
    ∀d:Act->World->Prop,(∀m w',f w w'->i c m w'->d (a.put k.dst m) w')->wpOp P ops Q c d a w
def mE {m:World->World->Prop} {o:Nat->Value->World->Prop} {r:Act} {q:World} {l:Nat} {a:Oper} (H:ops[l]?=some a) (D:a.guard=none)
 (v:∀c:Operand->Value,∀w,m q w->(∀d,c (.const d)=d)->(∀s,c (.func s)=.func (.func s) #[] #[])->(∀t,mM md ops l t=true->c (.tmp t)=r.eval (.tmp t))->
  (∀k i,a.after.toList.any (fun e=>Region.binds md e&&e.on==k)=true->((ops[k]?).bind (·.dst))=some i->o k (c (.tmp i)) w)->
  ∀b f,b.eval=c->(∀d w',m w w'->o l d w'->f (b.put a.dst d) w')->Oper.upon P a b f Q ((execOp c a).run P w)):dH P ops Q md m o r q l a:=by
 intro b w z N M I J f y;unfold wpOp;simp only [H];have K:Region.wanted a (yielded ops b.tmps)=true:=by unfold Region.wanted;rw [D]
 rw [zBx K];refine .inl (v b.eval w z (fun _=>rfl) (fun _=>rfl) (fun t ht=>I t ht) (fun k i E j=>?_) b f rfl y);obtain ⟨e,C,u⟩:=List.any_eq_true.1 E;simp only [zBd,zCn] at u;obtain ⟨x,rfl⟩:=u;cases p:ops[e.on]? with
 | none=>rw [p] at j;cases j
 | some L=>rw [p] at j;exact J e (Array.mem_toList_iff.1 C) x L i p j
def lP {m:World->World->Prop} {k:Nat->Value->World->Prop} {u:Act} {r:World} {q g a:Nat} {o:Bool} {c:Oper} (M:ops[q]?=some c) (J:c.guard=some (g,o))
 (z:((ops[g]?).bind (·.dst))=some a) (K:c.after.toList.any (fun e=>Region.binds md e&&e.on==g)=true)
 (O:∀f w,m r w->k g f w->f=.bool o)
 (D:∀j:Operand->Value,∀w,m r w->(∀f,j (.const f)=f)->(∀v,j (.func v)=.func (.func v) #[] #[])->(∀t,mM md ops q t=true->j (.tmp t)=u.eval (.tmp t))->
  (∀d a,c.after.toList.any (fun e=>Region.binds md e&&e.on==d)=true->((ops[d]?).bind (·.dst))=some a->k d (j (.tmp a)) w)->
  ∀b l,b.eval=j->(∀f w',m w w'->k q f w'->l (b.put c.dst f) w')->Oper.upon P c b l Q ((execOp j c).run P w)):dH P ops Q md m k u r q c:=by
 intro b w y V U N R l H;have C:∀d a,c.after.toList.any (fun e=>Region.binds md e&&e.on==d)=true->((ops[d]?).bind (·.dst))=some a->k d (b.eval (.tmp a)) w:=by
  intro d a L p;obtain ⟨e,I,x⟩:=List.any_eq_true.1 L;simp only [zBd,zCn] at x;obtain ⟨E,rfl⟩:=x;cases s:ops[e.on]? with
  | none=>rw [s] at p;cases p
  | some T=>rw [s] at p;exact R e (Array.mem_toList_iff.1 I) E T a s p
 have i:=O _ _ y (C g a K z);unfold wpOp;simp only [M];have S:Region.wanted c (yielded ops b.tmps)=true:=by
  unfold Region.wanted;rw [J];have:yielded ops b.tmps g=some o:=by
   unfold yielded;rw [z];change b.tmps.getD a undef=.bool o at i;rw [zAm] at i;rw [Option.bind_some];cases ht:b.tmps[a]? with
   | none=>rw [ht] at i;cases i
   | some W=>rw [ht] at i;simp only [Option.getD_some] at i;rw [i]
  simp only [this,beq_self_eq_true]
 rw [zBx S];exact .inl (D b.eval w y (fun _=>rfl) (fun _=>rfl) (fun t ht=>N t ht) C b l rfl H)
def aH {c:Nat->Oper->Prop} {f:Nat}:∀a b,([]:List Oper)[a]?=some b->c (f+a) b:=by intro a b d;simp at d
def aS {f:Nat->Oper->Prop} {c:Nat} {j:Oper} {i:List Oper} (k:f c j) (l:∀a b,i[a]?=some b->f (c+1+a) b):∀a b,(j::i)[a]?=some b->f (c+a) b:=by
 intro a b d;cases a with
 | zero=>simp at d;subst d;exact k
 | succ a=>simp at d;have:=l a b d;rwa [show c+1+a=c+(a+1) by omega] at this
def sC {P:Program} {ops:Array Oper} {Q:Exit->Act->World->Prop} {md:Region.Mode} {S:World->World->Prop} {V:Nat->Value->World->Prop} {a0:Act} {W0:World} {k:Nat} {o:Oper} {l:List Oper} (h:∀ev:Operand->Value,∀w,S W0 w->(∀v,ev (.const v)=v)->(∀f,ev (.func f)=.func (.func f) #[] #[])->(∀t,mM md ops k t=true->ev (.tmp t)=a0.eval (.tmp t))->(∀i d,o.after.toList.any (fun e=>Region.binds md e&&e.on==i)=true->((ops[i]?).bind (·.dst))=some d->V i (ev (.tmp d)) w)->∀a K,a.eval=ev->(∀v w',S w w'->V k v w'->K (a.put o.dst v) w')->Oper.upon P o a K Q ((execOp ev o).run P w)) (hl:∀j p,l[j]?=some p->dH P ops Q md S V a0 W0 (k+1+j) p) (ho:ops[k]?=some o:=by rfl) (hg:o.guard=none:=by rfl):∀j p,(o::l)[j]?=some p->dH P ops Q md S V a0 W0 (k+j) p:=aS (mE ho hg h) hl
def pL {P:Program} {ops:Array Oper} {Q:Exit->Act->World->Prop} {md:Region.Mode} {l:World->World->Prop} {m:Nat->Value->World->Prop} {s:Act} {q:World} {p:Nat} {d:Oper} {z:List Oper} {c:Addr} {C:Value} (o r:Nat) (x:∀w,l q w->w.cell? c=some C) (M:∀j c,z[j]?=some c->dH P ops Q md l m s q (p+1+j) c) (N:ops[p]?=some d:=by rfl) (K:d.guard=none:=by rfl) (I:d.after.toList.any (fun e=>Region.binds md e&&e.on==o)=true:=by kernel_rfl) (J:((ops[o]?).bind (·.dst))=some r:=by rfl) (E:∀(a:Operand->Value) (w:World),(∀k,a (.const k)=k)->(∀u,a (.func u)=.func (.func u) #[] #[])->m o (a (.tmp r)) w->w.cell? c=some C->∀(f:Act) (i:Act->World->Prop),f.eval=a->(∀k w',l w w'->m p k w'->i (f.put d.dst k) w')->Oper.upon P d f i Q ((execOp a d).run P w):=by (intro a w x y D R f i v b;have e:_=_:=D;go_simp;first|exact kq b rfl|exact b _ _ (VisK.refl _ _) rfl|exact b _ _ (Below.refl _ _) rfl|exact b _ _ (aL (VisK.refl _ _)) rfl|exact b _ _ (py_low (by decide) (by decide) (Below.refl _ _)) rfl|exact b _ _ (tr_low (by decide) (by decide) (by decide) (Below.refl _ _)) rfl)):∀j c,(d::z)[j]?=some c->dH P ops Q md l m s q (p+j) c:=aS (mE N K fun a w H L y S O f i v b=>E a w L y (O o r I J) (x w H) f i v b) M
def sG {P:Program} {ops:Array Oper} {Q:Exit->Act->World->Prop} {md:Region.Mode} {S:World->World->Prop} {V:Nat->Value->World->Prop} {a0:Act} {W0:World} {k g:Nat} {o:Oper} {l:List Oper} (d:Nat) (b:Bool) (h:∀ev:Operand->Value,∀w,S W0 w->(∀v,ev (.const v)=v)->(∀f,ev (.func f)=.func (.func f) #[] #[])->(∀t,mM md ops k t=true->ev (.tmp t)=a0.eval (.tmp t))->(∀i d,o.after.toList.any (fun e=>Region.binds md e&&e.on==i)=true->((ops[i]?).bind (·.dst))=some d->V i (ev (.tmp d)) w)->∀a K,a.eval=ev->(∀v w',S w w'->V k v w'->K (a.put o.dst v) w')->Oper.upon P o a K Q ((execOp ev o).run P w)) (hl:∀j p,l[j]?=some p->dH P ops Q md S V a0 W0 (k+1+j) p) (ho:ops[k]?=some o:=by rfl) (hg:o.guard=some (g,b):=by rfl) (hd:((ops[g]?).bind (·.dst))=some d:=by rfl) (ha:o.after.toList.any (fun e=>Region.binds md e&&e.on==g)=true:=by kernel_rfl) (hv:∀v w,S W0 w->V g v w->v=.bool b:=by exact fun _ _ _ h=>h):∀j p,(o::l)[j]?=some p->dH P ops Q md S V a0 W0 (k+j) p:=aS (lP ho hg hd ha hv h) hl
def pW {P:Program} {ops:Array Oper} {Q:Exit->Act->World->Prop} {md:Region.Mode} {S:World->World->Prop} {V:Nat->Value->World->Prop} {a0:Act} {W0:World} {k:Nat} {o:Oper} {l:List Oper} (i d j c:Nat) (hl:∀j p,l[j]?=some p->dH P ops Q md S V a0 W0 (k+1+j) p) (ho:ops[k]?=some o:=by rfl) (hg:o.guard=none:=by rfl) (hb:o.after.toList.any (fun e=>Region.binds md e&&e.on==i)=true:=by kernel_rfl) (hd:((ops[i]?).bind (·.dst))=some d:=by rfl) (hb2:o.after.toList.any (fun e=>Region.binds md e&&e.on==j)=true:=by kernel_rfl) (hd2:((ops[j]?).bind (·.dst))=some c:=by rfl) (h:∀(ev:Operand->Value) (w:World),(∀v,ev (.const v)=v)->(∀f,ev (.func f)=.func (.func f) #[] #[])->V i (ev (.tmp d)) w->V j (ev (.tmp c)) w->∀(a:Act) (K:Act->World->Prop),a.eval=ev->(∀v w',S w w'->V k v w'->K (a.put o.dst v) w')->Oper.upon P o a K Q ((execOp ev o).run P w):=by (intro ev w hc hf e0 f0 a K ha hK;have e:_=_:=e0;have f:_=_:=f0;go_simp;first|exact kq hK rfl|exact hK _ _ (VisK.refl _ _) rfl|exact hK _ _ (Below.refl _ _) rfl|exact hK _ _ (aL (VisK.refl _ _)) rfl|exact hK _ _ (py_low (by decide) (by decide) (Below.refl _ _)) rfl|exact hK _ _ (tr_low (by decide) (by decide) (by decide) (Below.refl _ _)) rfl)):∀j p,(o::l)[j]?=some p->dH P ops Q md S V a0 W0 (k+j) p:=aS (mE ho hg fun ev w _ hc hf hold hval a K ha hK=>h ev w hc hf (hval i d hb hd) (hval j c hb2 hd2) a K ha hK) hl
def gV {P:Program} {ops:Array Oper} {Q:Exit->Act->World->Prop} {md:Region.Mode} {m:World->World->Prop} {j:Nat->Value->World->Prop} {u:Act} {q:World} {p g:Nat} {c:Oper} {D:List Oper} (S:Nat) (v:Bool) (o r:Nat) (M:∀k l,D[k]?=some l->dH P ops Q md m j u q (p+1+k) l) (N:ops[p]?=some c:=by rfl) (L:c.guard=some (g,v):=by rfl) (K:((ops[g]?).bind (·.dst))=some S:=by rfl) (H:c.after.toList.any (fun e=>Region.binds md e&&e.on==g)=true:=by kernel_rfl) (O:∀d w,m q w->j g d w->d=.bool v:=by exact fun _ _ _ s=>s) (I:c.after.toList.any (fun e=>Region.binds md e&&e.on==o)=true:=by kernel_rfl) (J:((ops[o]?).bind (·.dst))=some r:=by rfl) (s:∀(a:Operand->Value) (w:World),(∀d,a (.const d)=d)->(∀x,a (.func x)=.func (.func x) #[] #[])->j o (a (.tmp r)) w->∀(f:Act) (i:Act->World->Prop),f.eval=a->(∀d w',m w w'->j p d w'->i (f.put c.dst d) w')->Oper.upon P c f i Q ((execOp a c).run P w):=by (intro a w z C E f i y b;have e:_=_:=E;go_simp;first|exact kq b rfl|exact b _ _ (VisK.refl _ _) rfl|exact b _ _ (Below.refl _ _) rfl|exact b _ _ (aL (VisK.refl _ _)) rfl|exact b _ _ (py_low (by decide) (by decide) (Below.refl _ _)) rfl|exact b _ _ (tr_low (by decide) (by decide) (by decide) (Below.refl _ _)) rfl)):∀k l,(c::D)[k]?=some l->dH P ops Q md m j u q (p+k) l:=aS (lP N L K H O fun a w _ z C T R f i y b=>s a w z C (R o r I J) f i y b) M
def pV {P:Program} {ops:Array Oper} {Q:Exit->Act->World->Prop} {md:Region.Mode} {S:World->World->Prop} {V:Nat->Value->World->Prop} {a0:Act} {W0:World} {k:Nat} {o:Oper} {l:List Oper} (i d:Nat) (hl:∀j p,l[j]?=some p->dH P ops Q md S V a0 W0 (k+1+j) p) (ho:ops[k]?=some o:=by rfl) (hg:o.guard=none:=by rfl) (hb:o.after.toList.any (fun e=>Region.binds md e&&e.on==i)=true:=by kernel_rfl) (hd:((ops[i]?).bind (·.dst))=some d:=by rfl) (h:∀(ev:Operand->Value) (w:World),(∀v,ev (.const v)=v)->(∀f,ev (.func f)=.func (.func f) #[] #[])->V i (ev (.tmp d)) w->∀(a:Act) (K:Act->World->Prop),a.eval=ev->(∀v w',S w w'->V k v w'->K (a.put o.dst v) w')->Oper.upon P o a K Q ((execOp ev o).run P w):=by (intro ev w hc hf e0 a K ha hK;have e:_=_:=e0;go_simp;first|exact kq hK rfl|exact hK _ _ (VisK.refl _ _) rfl|exact hK _ _ (Below.refl _ _) rfl|exact hK _ _ (aL (VisK.refl _ _)) rfl|exact hK _ _ (py_low (by decide) (by decide) (Below.refl _ _)) rfl|exact hK _ _ (tr_low (by decide) (by decide) (by decide) (Below.refl _ _)) rfl)):∀j p,(o::l)[j]?=some p->dH P ops Q md S V a0 W0 (k+j) p:=aS (mE ho hg fun ev w _ hc hf hold hval a K ha hK=>h ev w hc hf (hval i d hb hd) a K ha hK) hl
def gH {P:Program} {ops:Array Oper} {Q:Exit->Act->World->Prop} {md:Region.Mode} {m:World->World->Prop} {o:Nat->Value->World->Prop} {q:Act} {p:World} {k g:Nat} {d:Oper} {z:List Oper} (O:Nat) (s:Bool) (t:Nat) (C:Value) (J:∀j l,z[j]?=some l->dH P ops Q md m o q p (k+1+j) l) (K:ops[k]?=some d:=by rfl) (I:d.guard=some (g,s):=by rfl) (H:((ops[g]?).bind (·.dst))=some O:=by rfl) (D:d.after.toList.any (fun e=>Region.binds md e&&e.on==g)=true:=by kernel_rfl) (M:∀c w,m p w->o g c w->c=.bool s:=by exact fun _ _ _ r=>r) (E:mM md ops k t=true:=by kernel_rfl) (N:q.eval (.tmp t)=C:=by rfl) (r:∀(a:Operand->Value) (w:World),(∀c,a (.const c)=c)->(∀u,a (.func u)=.func (.func u) #[] #[])->a (.tmp t)=C->∀(f:Act) (i:Act->World->Prop),f.eval=a->(∀c w',m w w'->o k c w'->i (f.put d.dst c) w')->Oper.upon P d f i Q ((execOp a d).run P w):=by (intro a w x y e f i v b;go_simp;first|exact kq b rfl|exact b _ _ (VisK.refl _ _) rfl|exact b _ _ (Below.refl _ _) rfl|exact b _ _ (aL (VisK.refl _ _)) rfl|exact b _ _ (py_low (by decide) (by decide) (Below.refl _ _)) rfl|exact b _ _ (tr_low (by decide) (by decide) (by decide) (Below.refl _ _)) rfl)):∀j l,(d::z)[j]?=some l->dH P ops Q md m o q p (k+j) l:=aS (lP K I H D M fun a w _ x y L R f i v b=>r a w x y ((L t E).trans N) f i v b) J
def pH {P:Program} {ops:Array Oper} {Q:Exit->Act->World->Prop} {md:Region.Mode} {S:World->World->Prop} {V:Nat->Value->World->Prop} {a0:Act} {W0:World} {k:Nat} {o:Oper} {l:List Oper} (t:Nat) (x:Value) (hl:∀j p,l[j]?=some p->dH P ops Q md S V a0 W0 (k+1+j) p) (ho:ops[k]?=some o:=by rfl) (hg:o.guard=none:=by rfl) (hb:mM md ops k t=true:=by kernel_rfl) (hx:a0.eval (.tmp t)=x:=by rfl) (h:∀(ev:Operand->Value) (w:World),(∀v,ev (.const v)=v)->(∀f,ev (.func f)=.func (.func f) #[] #[])->ev (.tmp t)=x->∀(a:Act) (K:Act->World->Prop),a.eval=ev->(∀v w',S w w'->V k v w'->K (a.put o.dst v) w')->Oper.upon P o a K Q ((execOp ev o).run P w):=by (intro ev w hc hf e a K ha hK;go_simp;first|exact kq hK rfl|exact hK _ _ (VisK.refl _ _) rfl|exact hK _ _ (Below.refl _ _) rfl|exact hK _ _ (aL (VisK.refl _ _)) rfl|exact hK _ _ (py_low (by decide) (by decide) (Below.refl _ _)) rfl|exact hK _ _ (tr_low (by decide) (by decide) (by decide) (Below.refl _ _)) rfl)):∀j p,(o::l)[j]?=some p->dH P ops Q md S V a0 W0 (k+j) p:=aS (mE ho hg fun ev w _ hc hf hold hval a K ha hK=>h ev w hc hf ((hold t hb).trans hx) a K ha hK) hl
def aZ {c:Nat->Oper->Prop} {d:List Oper} (f:∀a b,d[a]?=some b->c (0+a) b):∀a b,d.toArray[a]?=some b->c a b:=by
 intro a b i;have:=f a b (by simpa using i);rwa [zBi] at this
def is (a:Value):Value->World->Prop:=fun b _=>b=a
def row (sz n:Nat) (xs:List Value):Value->World->Prop:=fun b w=>∃A a,b=.slice A n a/\Rd w w.heap.size sz A n xs/\n<=a/\a<=maxLen
def Grow (w w':World):Prop:=Below w.heap.size w w'
def Grow.trans {w w1 b:World} (a:Grow w w1) (c:Grow w1 b):Grow w b:=Below.trans a (Below.mono c (Below.size a))
def Stb (a:Value->World->Prop):Prop:=∀b w w',a b w->Grow w w'->a b w'
def Vs (b:List (Value->World->Prop)) (a:Nat):Value->World->Prop:=b.getD a fun _ _=>True
def xC (r:World->World->Prop) (H:Nat->Value->World->Prop) (u:Act) (s:World)
 (X:fM md ops u.tmps.size=true) (ad:r s s) (ah:∀w w',r s w->r w w'->r s w') (ae:∀a E w w',H a E w->r w w'->H a E w')
 (af:∀p i,ops[p]?=some i->dH P ops Q md r H u s p i)
 (a8:∀d w,r s w->d.tmps.size=u.tmps.size->d.defers=u.defers->
  (∀t,(∀(m:Nat) (l:Oper),ops[m]?=some l->l.dst≠some t)->d.tmps.getD t undef=u.tmps.getD t undef)->
  (∀a i j,ops[a]?=some i->i.dst=some j->H a (d.tmps.getD j undef) w)->Q .normal d w):
 wpAny P md ops Q ops.size (Array.replicate ops.size false) u s:=by
 have a1:∀b d w,b.size=ops.size->(∀a,a < ops.size->b.getD a false=true)->Loose md ops r H u s b d w->Q .normal d w:=by intro b d w D S c;refine a8 d w c.world c.size c.defers (fun t ht=>c.old t fun m l f k=>absurd k (ht m l f)) fun a i j o k=>c.val a i j o (S a (zAh.1 o).1) k
 have aj:∀b:Array Bool,b.size=ops.size->Region.ready md ops b= []->∀a,a < ops.size->b.getD a false=true:=by
  intro b D O a
  induction a using Nat.strongRecOn with
  | _ a Z=>
    intro v;cases T:b.getD a false with
    | true=>rfl
    | false=>
      exfalso;have U:a∈Region.ready md ops b:=(by refine mem_ready.2 ⟨?_,ops[a],zAq v,fun e y x=>?_⟩;have M:a < b.size:=oM;simp [M] at T⊢;exact T;have:=(cX X (zAq v)).1 e y x;exact Z e.on this oM);rw [O] at U;cases U
 have ai:∀K b d w,b.size=ops.size->b.toList.count false<=K->Loose md ops r H u s b d w->wpAny P md ops Q K b d w:=by
  intro K
  induction K with
  | zero=>
    intro b d w D T c
    have S:∀a,a < ops.size->b.getD a false=true:=by
        intro a v;have M:a < b.size:=oM;cases R:b.getD a false with
        | true=>rfl
        | false=>
          exfalso;have:false∈b.toList:=(by simp [M] at R;exact R ▸(by simp));have:=List.count_pos_iff.2 this;omega
    refine ⟨?_,a1 b d w D S c⟩;cases O:Region.ready md ops b with
    | nil=>rfl
    | cons a ak=>
      exfalso;have v:a∈Region.ready md ops b:=(by rw [O];exact List.mem_cons_self ..);obtain ⟨L,i,o,_⟩:=mem_ready.1 v;have J:a < ops.size:=(zAh.1 o).1;have z:=S a J;have M:a < b.size:=oM;simp [M] at L z;rw [L] at z;cases z
  | succ K Z=>
    intro b d w D T c;refine ⟨fun O=>a1 b d w D (aj b D O) c,fun p aa=>?_⟩;obtain ⟨L,i,o,a3⟩:=mem_ready.1 aa;have J:p < ops.size:=(zAh.1 o).1;have C:p < b.size:=oM;have I:b.getD p false=false:=(by simp [C] at L⊢;exact L);refine af p i o d w c.world c.size c.defers (fun t ht=>c.old t fun m l f k=>?_) (fun e y x l j f k=>c.val e.on l j f (a3 e y x) k) _ fun E w' a2 a6=>?_
    · rcases pC ht f k with rfl |⟨e,y,x,a9⟩;exact I
      · cases q:b.getD m false with
        | false=>rfl
        | true=>
          have:=c.shut m l f q e y x;rw [a9,I] at this;cases this
    · refine Z _ _ _ (by simpa using D) ?_ ?_;have R:b.toList[p]'(by simpa using C)=false:=(by simp [C] at I⊢;exact I);rw [Array.toList_setIfInBounds,List.count_set (by simpa using C),R];simp;have U:false∈b.toList:=R ▸ zBj _;have:=List.count_pos_iff.2 U;rw [<-Array.count_toList];omega
      · have ag:(d.put i.dst E).tmps.size=u.tmps.size:=by
          rw [<-c.size];cases i.dst with
          | none=>rfl
          | some j=>simp [Act.put]
        refine ⟨ah w w' c.world a2,ag,?_,fun t ht=>?_,fun a l j f v k=>?_,fun m l f q e y x=>?_⟩
        · rw [<-c.defers];cases i.dst <;> rfl
        · have ab:i.dst≠some t:=fun k=>by have:=ht p i o k;rw [aX _ _ C] at this;cases this
          have ac:=c.old t fun m l f k=>by
           have:=ht m l f k;cases q:b.getD m false with
           | false=>rfl
           | true=>
             by_cases a5:p=m
             · subst a5;rw [I] at q;cases q
             · rw [getD_set_ne false a5,q] at this;cases this
          rw [<-ac];cases Y:i.dst with
          | none=>rfl
          | some j=>
            have V:j≠t:=fun c=>ab (by rw [Y,c]);simp [Act.put,zAm,V]
        · rcases dJ _ _ _ v with rfl | W;rw [o] at f;injection f with f;subst f;have a7:=((cX X o).2 j k).1;have:(d.put i.dst E).tmps.getD j undef=E:=(by rw [k];have:j < d.tmps.size:=(by rw [c.size];exact a7);simp [Act.put,zAm,this]);rw [this];exact a6
          · by_cases a4:a=p
            · subst a4;rw [I] at W;cases W
            have:(d.put i.dst E).tmps.getD j undef=d.tmps.getD j undef:=by
              cases Y:i.dst with
              | none=>rfl
              | some a0=>
                have V:a0≠j:=fun c=>a4 (((cX X o).2 a0 Y).2 a l f (c ▸ k));simp [Act.put,zAm,V]
            rw [this];exact ae _ _ _ _ (c.val a l j f W k) a2
        rcases dJ _ _ _ q with rfl | q;rw [o] at f;injection f with f;subst f;have z:=a3 e y x;by_cases N:m=e.on;rw [<-N];exact aX _ _ C _;rw [getD_set_ne false N];exact z;have z:=c.shut m l f q e y x;by_cases N:p=e.on;rw [<-N];exact aX _ _ C _;rw [getD_set_ne false N];exact z
 refine ai _ _ _ _ (by simp) (by simp) ⟨ad,rfl,rfl,fun _ _=>rfl,fun a i j o v k=>?_,fun m l f q=>?_⟩
 · have J:a < ops.size:=(zAh.1 o).1;simp [J] at v
 · have J:m < ops.size:=(zAh.1 f).1;simp [J] at q
end
def cQ (d:Operand->Value) (c:List Nat) (b:Act):Act:=c.foldl (fun f a=>f.put (some a) (d (.tmp a))) b
def zqq:(∀(i:Operand->Value) (d:Nat) (l:List Nat) (f:Act),cQ i (d::l) f=cQ i l (f.put (some d) (i (.tmp d))))/\(∀(i:Operand->Value) (f:Act),cQ i [] f=f)/\(∀t k d m,Act.put ⟨t,k⟩ (some d) m=⟨t.setIfInBounds d m,k⟩)/\(∀(a:List Value) j c,a.toArray.setIfInBounds j c=(a.set j c).toArray)/\(∀(a:List Value) c b,(c::a).set 0 b=b::a)/\∀(a:List Value) c b n,(c::a).set (n+1) b=c::a.set n b:=⟨fun _ _ _ _=>rfl,fun _ _=>rfl,fun _ _ _ _=>rfl,fun a j c=>List.setIfInBounds_toArray a j c,fun _ _ _=>rfl,fun _ _ _ _=>rfl⟩
def aDY (b:Act) (d:List Nat) (a:Act) (o:b.tmps.size=a.tmps.size):
 (cQ b.eval d a).tmps.size=a.tmps.size/\(cQ b.eval d a).defers=a.defers/\
 ∀t,(cQ b.eval d a).tmps.getD t undef=if t∈d then b.tmps.getD t undef else a.tmps.getD t undef:=by
 induction d generalizing a with
 | nil=>exact ⟨rfl,rfl,fun t=>by simp [cQ]⟩
 | cons c d s=>
   have i:(a.put (some c) (b.eval (.tmp c))).tmps.size=a.tmps.size:=(by simp [Act.put]);obtain ⟨p,q,r⟩:=s (a.put (some c) (b.eval (.tmp c))) (by rw [i];exact o);refine ⟨p.trans i,q,fun t=>?_⟩;have l:=r t;change (cQ b.eval d (a.put (some c) (b.eval (.tmp c)))).tmps.getD t undef=_;rw [l];by_cases ht:t∈d
   · rw [zBx ht,zBx (List.mem_cons_of_mem _ ht)]
   · rw [zBw ht];by_cases f:t=c
     · subst f;rw [zBx (List.mem_cons_self ..)];by_cases j:t < a.tmps.size
       · simp [Act.put,zAm,j,Act.eval]
       · have m:¬t < b.tmps.size:=oM;simp [Act.put,zAm,j,m]
     · rw [zBw (by simp [f,ht])];have:c≠t:=fun k=>f k.symm;simp [Act.put,zAm,this]
def kC (a b:Act) (c:List Nat) (p:a.tmps.size=b.tmps.size) (j:a.defers=b.defers) (r:∀t,t∉c->a.tmps.getD t undef=b.tmps.getD t undef):a=cQ a.eval c b:=by
 obtain ⟨v,l,x⟩:=aDY a c b p;have m:a.tmps=(cQ a.eval c b).tmps:=by
  apply Array.ext
  · rw [v,p]
  · intro d s u;have:=x d;have q:(cQ a.eval c b).tmps.getD d undef=(cQ a.eval c b).tmps[d]:=(by simp [zAm,u]);have o:a.tmps.getD d undef=a.tmps[d]:=(by simp [zAm,s]);rw [q] at this;rw [this];by_cases k:d∈c
    · rw [zBx k,o]
    · rw [zBw k,<-r d k,o]
 cases f:a with
 | mk t y=>
   cases i:cQ a.eval c b with
   | mk C z=>
     rw [f] at i;rw [i];rw [f,i] at m;rw [f,i] at l;rw [f] at j;simp only at m l j;rw [m,j,l]
section
variable {P : Program} {ops : Array Oper} {Q : Exit -> Act -> World -> Prop} {md : Region.Mode}
def cJ (l:List Nat) (a:World->World->Prop) (i:Nat->Value->World->Prop) (d:Act) (b:World)
 (x:ops.toList.filterMap (·.dst)=l)
 (z:fM md ops d.tmps.size=true) (E:a b b) (K:∀w w',a b w->a w w'->a b w') (H:∀c s w w',i c s w->a w w'->i c s w')
 (I:∀r k,ops[r]?=some k->dH P ops Q md a i d b r k)
 (y:∀(p:Operand->Value) w,a b w->(∀c j,((ops[c]?).bind (·.dst))=some j->i c (p (.tmp j)) w)->Q .normal (cQ p l d) w):
 wpAny P md ops Q ops.size (Array.replicate ops.size false) d b:=by
 refine xC a i d b z E K H I fun o w u J v C L=>?_;have q:=y o.eval w u fun c j f=>by
  cases m:ops[c]? with
  | none=>rw [m] at f;cases f
  | some k=>rw [m] at f;exact L c k j m f
 rw [<-kC o d l J v fun t ht=>C t fun N M D f=>ht ?_] at q;exact q;rw [<-x];exact List.mem_filterMap.2 ⟨M,Array.mem_toList_iff.2 (Array.mem_of_getElem? D),f⟩
end
section
variable {P : Program} {ops : Array Oper} {Q : Exit -> Act -> World -> Prop} {md : Region.Mode}
def qX (md:Region.Mode) (ops:Array Oper) (a b:Nat):Bool:=match ops[a]? with
 | some c=>c.after.toList.any (fun e=>Region.binds md e&&e.on==b)
 | none=>false
def cE (P:Program) (ops:Array Oper) (Q:Exit->Act->World->Prop) (md:Region.Mode) (m:World->Prop) (o:Nat->World->World->Prop) (p:Nat->World->Prop) (f:Nat->Value->World->Prop) (c:Act) (b:Nat) (j:Oper):Prop:=
 ∀a w,m w->p b w->a.tmps.size=c.tmps.size->a.defers=c.defers->
    (∀t,mM md ops b t=true->a.tmps.getD t undef=c.tmps.getD t undef)->
    (∀e∈j.after,Region.binds md e=true->∀k i,ops[e.on]?=some k->k.dst=some i->f e.on (a.tmps.getD i undef) w)->
    ∀d:Act->World->Prop,(∀l w',o b w w'->f b l w'->d (a.put j.dst l) w')->wpOp P ops Q b d a w
def jP {p:World->Prop} {q:Nat->World->World->Prop} {r:Nat->World->Prop} {m:Nat->Value->World->Prop} {s:Act} {d:Nat} {a:Oper} (J:ops[d]?=some a) (H:a.guard=none)
 (x:∀c:Operand->Value,∀w,p w->r d w->(∀f,c (.const f)=f)->(∀u,c (.func u)=.func (.func u) #[] #[])->(∀t,mM md ops d t=true->c (.tmp t)=s.eval (.tmp t))->
  (∀l j,a.after.toList.any (fun e=>Region.binds md e&&e.on==l)=true->((ops[l]?).bind (·.dst))=some j->m l (c (.tmp j)) w)->
  ∀b i,b.eval=c->(∀f w',q d w w'->m d f w'->i (b.put a.dst f) w')->Oper.upon P a b i Q ((execOp c a).run P w)):cE P ops Q md p q r m s d a:=by
 intro b w C D R O K L i z;unfold wpOp;simp only [J];have M:Region.wanted a (yielded ops b.tmps)=true:=by unfold Region.wanted;rw [H]
 rw [zBx M];refine .inl (x b.eval w C D (fun _=>rfl) (fun _=>rfl) (fun t ht=>K t ht) (fun l j I k=>?_) b i rfl z);obtain ⟨e,E,v⟩:=List.any_eq_true.1 I;simp only [zBd,zCn] at v;obtain ⟨y,rfl⟩:=v;cases o:ops[e.on]? with
 | none=>rw [o] at k;cases k
 | some N=>rw [o] at k;exact L e (Array.mem_toList_iff.1 E) y N j o k
def sC3 {P:Program} {ops:Array Oper} {Q:Exit->Act->World->Prop} {md:Region.Mode} {C:World->Prop} {S:Nat->World->World->Prop} {U:Nat->World->Prop} {V:Nat->Value->World->Prop} {a0:Act} {k:Nat} {o:Oper} {l:List Oper} (h:∀ev:Operand->Value,∀w,C w->U k w->(∀v,ev (.const v)=v)->(∀f,ev (.func f)=.func (.func f) #[] #[])->(∀t,mM md ops k t=true->ev (.tmp t)=a0.eval (.tmp t))->(∀i d,o.after.toList.any (fun e=>Region.binds md e&&e.on==i)=true->((ops[i]?).bind (·.dst))=some d->V i (ev (.tmp d)) w)->∀a K,a.eval=ev->(∀v w',S k w w'->V k v w'->K (a.put o.dst v) w')->Oper.upon P o a K Q ((execOp ev o).run P w)) (hl:∀j p,l[j]?=some p->cE P ops Q md C S U V a0 (k+1+j) p) (ho:ops[k]?=some o:=by rfl) (hg:o.guard=none:=by rfl):∀j p,(o::l)[j]?=some p->cE P ops Q md C S U V a0 (k+j) p:=aS (jP ho hg h) hl
def pL3 {P:Program} {ops:Array Oper} {Q:Exit->Act->World->Prop} {md:Region.Mode} {p:World->Prop} {q:Nat->World->World->Prop} {s:Nat->World->Prop} {m:Nat->Value->World->Prop} {u:Act} {k:Nat} {d:Oper} {C:List Oper} {c:Addr} {D:Value} (o r:Nat) (y:∀w,p w->w.cell? c=some D) (N:∀j c,C[j]?=some c->cE P ops Q md p q s m u (k+1+j) c) (O:ops[k]?=some d:=by rfl) (L:d.guard=none:=by rfl) (J:d.after.toList.any (fun e=>Region.binds md e&&e.on==o)=true:=by kernel_rfl) (K:((ops[o]?).bind (·.dst))=some r:=by rfl) (H:∀(a:Operand->Value) (w:World),(∀l,a (.const l)=l)->(∀v,a (.func v)=.func (.func v) #[] #[])->m o (a (.tmp r)) w->w.cell? c=some D->∀(f:Act) (i:Act->World->Prop),f.eval=a->(∀l w',q k w w'->m k l w'->i (f.put d.dst l) w')->Oper.upon P d f i Q ((execOp a d).run P w):=by (intro a w y z E S f i x b;have e:_=_:=E;go_simp;first|exact kq b rfl|exact b _ _ (VisK.refl _ _) rfl|exact b _ _ (Below.refl _ _) rfl|exact b _ _ (aL (VisK.refl _ _)) rfl|exact b _ _ (py_low (by decide) (by decide) (Below.refl _ _)) rfl|exact b _ _ (tr_low (by decide) (by decide) (by decide) (Below.refl _ _)) rfl)):∀j c,(d::C)[j]?=some c->cE P ops Q md p q s m u (k+j) c:=aS (jP O L fun a w I _ M z T R f i x b=>H a w M z (R o r J K) (y w I) f i x b) N
def pW3 {P:Program} {ops:Array Oper} {Q:Exit->Act->World->Prop} {md:Region.Mode} {C:World->Prop} {S:Nat->World->World->Prop} {U:Nat->World->Prop} {V:Nat->Value->World->Prop} {a0:Act} {k:Nat} {o:Oper} {l:List Oper} (i d j c:Nat) (hl:∀j p,l[j]?=some p->cE P ops Q md C S U V a0 (k+1+j) p) (ho:ops[k]?=some o:=by rfl) (hg:o.guard=none:=by rfl) (hb:o.after.toList.any (fun e=>Region.binds md e&&e.on==i)=true:=by kernel_rfl) (hd:((ops[i]?).bind (·.dst))=some d:=by rfl) (hb2:o.after.toList.any (fun e=>Region.binds md e&&e.on==j)=true:=by kernel_rfl) (hd2:((ops[j]?).bind (·.dst))=some c:=by rfl) (h:∀(ev:Operand->Value) (w:World),(∀v,ev (.const v)=v)->(∀f,ev (.func f)=.func (.func f) #[] #[])->V i (ev (.tmp d)) w->V j (ev (.tmp c)) w->∀(a:Act) (K:Act->World->Prop),a.eval=ev->(∀v w',S k w w'->V k v w'->K (a.put o.dst v) w')->Oper.upon P o a K Q ((execOp ev o).run P w):=by (intro ev w hc hf e0 f0 a K ha hK;have e:_=_:=e0;have f:_=_:=f0;go_simp;first|exact kq hK rfl|exact hK _ _ (VisK.refl _ _) rfl|exact hK _ _ (Below.refl _ _) rfl|exact hK _ _ (aL (VisK.refl _ _)) rfl|exact hK _ _ (py_low (by decide) (by decide) (Below.refl _ _)) rfl|exact hK _ _ (tr_low (by decide) (by decide) (by decide) (Below.refl _ _)) rfl)):∀j p,(o::l)[j]?=some p->cE P ops Q md C S U V a0 (k+j) p:=aS (jP ho hg fun ev w _ _ hc hf hold hval a K ha hK=>h ev w hc hf (hval i d hb hd) (hval j c hb2 hd2) a K ha hK) hl
def pV3 {P:Program} {ops:Array Oper} {Q:Exit->Act->World->Prop} {md:Region.Mode} {C:World->Prop} {S:Nat->World->World->Prop} {U:Nat->World->Prop} {V:Nat->Value->World->Prop} {a0:Act} {k:Nat} {o:Oper} {l:List Oper} (i d:Nat) (hl:∀j p,l[j]?=some p->cE P ops Q md C S U V a0 (k+1+j) p) (ho:ops[k]?=some o:=by rfl) (hg:o.guard=none:=by rfl) (hb:o.after.toList.any (fun e=>Region.binds md e&&e.on==i)=true:=by kernel_rfl) (hd:((ops[i]?).bind (·.dst))=some d:=by rfl) (h:∀(ev:Operand->Value) (w:World),(∀v,ev (.const v)=v)->(∀f,ev (.func f)=.func (.func f) #[] #[])->V i (ev (.tmp d)) w->∀(a:Act) (K:Act->World->Prop),a.eval=ev->(∀v w',S k w w'->V k v w'->K (a.put o.dst v) w')->Oper.upon P o a K Q ((execOp ev o).run P w):=by (intro ev w hc hf e0 a K ha hK;have e:_=_:=e0;go_simp;first|exact kq hK rfl|exact hK _ _ (VisK.refl _ _) rfl|exact hK _ _ (Below.refl _ _) rfl|exact hK _ _ (aL (VisK.refl _ _)) rfl|exact hK _ _ (py_low (by decide) (by decide) (Below.refl _ _)) rfl|exact hK _ _ (tr_low (by decide) (by decide) (by decide) (Below.refl _ _)) rfl)):∀j p,(o::l)[j]?=some p->cE P ops Q md C S U V a0 (k+j) p:=aS (jP ho hg fun ev w _ _ hc hf hold hval a K ha hK=>h ev w hc hf (hval i d hb hd) a K ha hK) hl
def pH3 {P:Program} {ops:Array Oper} {Q:Exit->Act->World->Prop} {md:Region.Mode} {C:World->Prop} {S:Nat->World->World->Prop} {U:Nat->World->Prop} {V:Nat->Value->World->Prop} {a0:Act} {k:Nat} {o:Oper} {l:List Oper} (t:Nat) (x:Value) (hl:∀j p,l[j]?=some p->cE P ops Q md C S U V a0 (k+1+j) p) (ho:ops[k]?=some o:=by rfl) (hg:o.guard=none:=by rfl) (hb:mM md ops k t=true:=by kernel_rfl) (hx:a0.eval (.tmp t)=x:=by rfl) (h:∀(ev:Operand->Value) (w:World),(∀v,ev (.const v)=v)->(∀f,ev (.func f)=.func (.func f) #[] #[])->ev (.tmp t)=x->∀(a:Act) (K:Act->World->Prop),a.eval=ev->(∀v w',S k w w'->V k v w'->K (a.put o.dst v) w')->Oper.upon P o a K Q ((execOp ev o).run P w):=by (intro ev w hc hf e a K ha hK;go_simp;first|exact kq hK rfl|exact hK _ _ (VisK.refl _ _) rfl|exact hK _ _ (Below.refl _ _) rfl|exact hK _ _ (aL (VisK.refl _ _)) rfl|exact hK _ _ (py_low (by decide) (by decide) (Below.refl _ _)) rfl|exact hK _ _ (tr_low (by decide) (by decide) (by decide) (Below.refl _ _)) rfl)):∀j p,(o::l)[j]?=some p->cE P ops Q md C S U V a0 (k+j) p:=aS (jP ho hg fun ev w _ _ hc hf hold hval a K ha hK=>h ev w hc hf ((hold t hb).trans hx) a K ha hK) hl
end
section
variable {P : Program} {ops : Array Oper} {Q : Exit -> Act -> World -> Prop} {md : Region.Mode}
def upB (md:Region.Mode) (ops:Array Oper):Nat->Nat->Nat->Bool
 | 0,_,_=>false
 | f+1,j,i=>match ops[j]? with
   | some a=>a.after.toList.any fun e=>Region.binds md e&&(e.on==i||upB md ops f e.on i)
   | none=>false
def fA {j:Array Bool} (hs:∀p f,ops[p]?=some f->j.getD p false=true->∀e∈f.after,Region.binds md e=true->j.getD e.on false=true):
 ∀b i d k,ops[i]?=some k->(∀e∈k.after,Region.binds md e=true->j.getD e.on false=true)->upB md ops b i d=true->j.getD d false=true:=by
 intro b
 induction b with
 | zero=>intro i d k _ _ c;cases c
 | succ b u=>
   intro i d k s q c;unfold upB at c;rw [s] at c;obtain ⟨e,r,l⟩:=List.any_eq_true.1 c;simp only [zBd,Bool.or_eq_true,zCn] at l;have o:=q e (Array.mem_toList_iff.1 r) l.1;rcases l.2 with a | a;rw [<-a];exact o
   · cases m:ops[e.on]? with
     | none=>
       exfalso;cases b with
       | zero=>cases a
       | succ b=>unfold upB at a;rw [m] at a;cases a
     | some f=>exact u e.on d f m (hs e.on f m o) a
structure Loose7 (md:Region.Mode) (ops:Array Oper) (C:World->Prop) (U:Nat->World->Prop) (V:Nat->Value->World->Prop) (a0:Act) (listed:Array Bool) (a:Act) (w:World):Prop where
 world:C w
 pre:∀j o,ops[j]?=some o->listed.getD j false=false->U j w
 size:a.tmps.size=a0.tmps.size
 defers:a.defers=a0.defers
 old:∀t,(∀k p,ops[k]?=some p->p.dst=some t->listed.getD k false=false)->a.tmps.getD t undef=a0.tmps.getD t undef
 val:∀i o,ops[i]?=some o->listed.getD i false=true->∃v,(∀d,o.dst=some d->a.tmps.getD d undef=v)/\V i v w
 shut:∀k p,ops[k]?=some p->listed.getD k false=true->∀e∈p.after,Region.binds md e=true->listed.getD e.on false=true
def uD (u:World->Prop) (U:Nat->World->World->Prop) (J:Nat->World->Prop) (K:Nat->Value->World->Prop) (v:Act)
 (Y:World) (a3:fM md ops v.tmps.size=true) (ab:u Y) (ad:∀a,J a Y) (aa:∀d w w',u w->U d w w'->u w') (ac:∀a d w w',a≠d->upB md ops ops.size d a=false->J a w->u w->U d w w'->J a w')
 (am:∀a d y w w',a≠d->qX md ops a d=false->K a y w->u w->U d w w'->K a y w')
 (an:∀d j,ops[d]?=some j->cE P ops Q md u U J K v d j)
 (ah:∀i w,u w->i.tmps.size=v.tmps.size->i.defers=v.defers->
  (∀t,(∀(p:Nat) (k:Oper),ops[p]?=some k->k.dst≠some t)->i.tmps.getD t undef=v.tmps.getD t undef)->
  (∀a j,ops[a]?=some j->∃y,(∀q,j.dst=some q->i.tmps.getD q undef=y)/\K a y w)->Q .normal i w):
 wpAny P md ops Q ops.size (Array.replicate ops.size false) v Y:=by
 have a7:∀b i w,b.size=ops.size->(∀a,a < ops.size->b.getD a false=true)->Loose7 md ops u J K v b i w->Q .normal i w:=by intro b i w H V c;refine ah i w c.world c.size c.defers (fun t ht=>c.old t fun p k f m=>absurd m (ht p k f)) fun a j l=>c.val a j l (V a (zAh.1 l).1)
 have au:∀b:Array Bool,b.size=ops.size->Region.ready md ops b= []->∀a,a < ops.size->b.getD a false=true:=by
  intro b H T a
  induction a using Nat.strongRecOn with
  | _ a a5=>
    intro o;cases D:b.getD a false with
    | true=>rfl
    | false=>
      exfalso;have X:a∈Region.ready md ops b:=(by refine mem_ready.2 ⟨?_,ops[a],zAq o,fun e s C=>?_⟩;have R:a < b.size:=oM;simp [R] at D⊢;exact D;have:=(cX a3 (zAq o)).1 e s C;exact a5 e.on this oM);rw [T] at X;cases X
 have ar:∀M b i w,b.size=ops.size->b.toList.count false<=M->Loose7 md ops u J K v b i w->wpAny P md ops Q M b i w:=by
  intro M
  induction M with
  | zero=>
    intro b i w H D c
    have V:∀a,a < ops.size->b.getD a false=true:=by
        intro a o;have R:a < b.size:=oM;cases I:b.getD a false with
        | true=>rfl
        | false=>
          exfalso;have:false∈b.toList:=(by simp [R] at I;exact I ▸(by simp));have:=List.count_pos_iff.2 this;omega
    refine ⟨?_,a7 b i w H V c⟩;cases T:Region.ready md ops b with
    | nil=>rfl
    | cons a aw=>
      exfalso;have o:a∈Region.ready md ops b:=(by rw [T];exact List.mem_cons_self ..);obtain ⟨N,j,l,_⟩:=mem_ready.1 o;have L:a < ops.size:=(zAh.1 l).1;have x:=V a L;have R:a < b.size:=oM;simp [R] at N x;rw [N] at x;cases x
  | succ M a5=>
    intro b i w H D c;refine ⟨fun T=>a7 b i w H (au b H T) c,fun d aj=>?_⟩;obtain ⟨N,j,l,a0⟩:=mem_ready.1 aj;have L:d < ops.size:=(zAh.1 l).1;have E:d < b.size:=oM;have z:b.getD d false=false:=(by simp [E] at N⊢;exact N);refine an d j l i w c.world (c.pre d j l z) c.size c.defers (fun t ht=>c.old t fun p k f m=>?_) (fun e s C k q f m=>by obtain ⟨y,x,O⟩:=c.val e.on k f (a0 e s C);rw [x q m];exact O) _ fun y w' Z ae=>?_
    · rcases pC ht f m with rfl |⟨e,s,C,ai⟩;exact z
      · cases r:b.getD p false with
        | false=>rfl
        | true=>
          have:=c.shut p k f r e s C;rw [ai,z] at this;cases this
    · refine a5 _ _ _ (by simpa using H) ?_ ?_;have I:b.toList[d]'(by simpa using E)=false:=(by simp [E] at z⊢;exact z);rw [Array.toList_setIfInBounds,List.count_set (by simpa using E),I];simp;have X:false∈b.toList:=I ▸ zBj _;have:=List.count_pos_iff.2 X;rw [<-Array.count_toList];omega
      · have ao:(i.put j.dst y).tmps.size=v.tmps.size:=by
          rw [<-c.size];cases j.dst with
          | none=>rfl
          | some q=>simp [Act.put]
        refine ⟨aa d w w' c.world Z,fun a k f o=>?_,ao,?_,fun t ht=>?_,fun a k f o=>?_,fun p k f r e s C=>?_⟩
        · have a8:a≠d:=fun e=>by rw [e,aX _ _ E] at o;cases o
          rw [getD_set_ne false a8.symm] at o;refine ac a d w w' a8 ?_ (c.pre a k f o) c.world Z;cases aq:upB md ops ops.size d a with
          | false=>rfl
          | true=>
            have:=fA c.shut _ d a j l a0 aq;rw [o] at this;cases this
        · rw [<-c.defers];cases j.dst <;> rfl
        · have ak:j.dst≠some t:=fun m=>by have:=ht d j l m;rw [aX _ _ E] at this;cases this
          have al:=c.old t fun p k f m=>by
           have:=ht p k f m;cases r:b.getD p false with
           | false=>rfl
           | true=>
             by_cases a9:d=p
             · subst a9;rw [z] at r;cases r
             · rw [getD_set_ne false a9,r] at this;cases this
          rw [<-al];cases a4:j.dst with
          | none=>rfl
          | some q=>
            have a1:q≠t:=fun c=>ak (by rw [a4,c]);simp [Act.put,zAm,a1]
        · rcases dJ _ _ _ o with rfl | W
          · rw [l] at f;injection f with f;subst f;refine ⟨y,fun q m=>?_,ae⟩;have ag:=((cX a3 l).2 q m).1;rw [m];have:q < i.tmps.size:=(by rw [c.size];exact ag);simp [Act.put,zAm,this]
          · by_cases a2:a=d
            · subst a2;rw [z] at W;cases W
            obtain ⟨av,ap,I⟩:=c.val a k f W
            have af:qX md ops a d=false:=by
              cases D:qX md ops a d with
              | false=>rfl
              | true=>
                exfalso;unfold qX at D;rw [f] at D;obtain ⟨e,s,O⟩:=List.any_eq_true.1 D;simp only [zBd,zCn] at O;have:=c.shut a k f W e (Array.mem_toList_iff.1 s) O.1;rw [O.2,z] at this;cases this
            refine ⟨av,fun q m=>?_,am _ _ _ _ _ a2 af I c.world Z⟩;rw [<-ap q m];cases a4:j.dst with
            | none=>rfl
            | some a6=>
              have a1:a6≠q:=fun c=>a2 (((cX a3 l).2 a6 a4).2 a k f (c ▸ m));simp [Act.put,zAm,a1]
        rcases dJ _ _ _ r with rfl | r;rw [l] at f;injection f with f;subst f;have x:=a0 e s C;by_cases S:p=e.on;rw [<-S];exact aX _ _ E _;rw [getD_set_ne false S];exact x;have x:=c.shut p k f r e s C;by_cases S:d=e.on;rw [<-S];exact aX _ _ E _;rw [getD_set_ne false S];exact x
 refine ar _ _ _ _ (by simp) (by simp) ⟨ab,fun d _ _ _=>ad d,rfl,rfl,fun _ _=>rfl,fun a j l o=>?_,fun p k f r=>?_⟩
 · have L:a < ops.size:=(zAh.1 l).1;simp [L] at o
 · have L:p < ops.size:=(zAh.1 f).1;simp [L] at r
def mC (s:List Nat) (c:World->Prop) (k:Nat->World->World->Prop) (l:Nat->World->Prop) (d:Nat->Value->World->Prop) (i:Act) (o:World)
 (J:ops.toList.filterMap (·.dst)=s)
 (M:fM md ops i.tmps.size=true) (C:c o) (H:∀a,l a o) (z:∀b w w',c w->k b w w'->c w') (E:∀a b w w',a≠b->upB md ops ops.size b a=false->l a w->c w->k b w w'->l a w')
 (R:∀a b f w w',a≠b->qX md ops a b=false->d a f w->c w->k b w w'->d a f w')
 (S:∀b q,ops[b]?=some q->cE P ops Q md c k l d i b q)
 (K:∀(x:Operand->Value) w,c w->(∀a m,((ops[a]?).bind (·.dst))=some m->d a (x (.tmp m)) w)->(∀a,a < ops.size->∃f,d a f w)->Q .normal (cQ x s i) w):
 wpAny P md ops Q ops.size (Array.replicate ops.size false) i o:=by
 refine uD c k l d i o M C H z E R S fun r w D T I N y=>?_;have p:=K r.eval w D (fun a m j=>by
  cases v:ops[a]? with
  | none=>rw [v] at j;cases j
  | some q=>
    rw [v] at j;obtain ⟨f,p,u⟩:=y a q v;have:=p m j;change d a (r.tmps.getD m undef) w;rw [this];exact u) (fun a L=>by
  obtain ⟨f,_,u⟩:=y a _ (zAq L);exact ⟨f,u⟩)
 rw [<-kC r i s T I fun t ht=>N t fun V U O j=>ht ?_] at p;exact p;rw [<-J];exact List.mem_filterMap.2 ⟨U,Array.mem_toList_iff.2 (Array.mem_of_getElem? O),j⟩
end
def oT (F:Nat->Prop) (a b:Nat) (w w':World):Prop:=(b=a->Keep F w w')/\(b≠a->Grow w w')
def kZ {F:Nat->Prop} {a d:Nat} {w w':World} (b:oT F a d w w'):Keep F w w':=by
 by_cases c:d=a;exact b.1 c;exact Keep.of_below (b.2 c)
def aG {F:Nat->Prop} {b c:Nat} {w w':World} (a:Grow w w'):oT F b c w w':=⟨fun _=>Keep.of_below a,fun _=>a⟩
def kq {F:Nat->Prop} {c i:Nat} {w:World} {b Q:Value->World->Prop} (f:∀a w',oT F c i w w'->b a w'->Q a w') {a:Value} (d:b a w):Q a w:=f a w (aG bR) d
def aW {F:Nat->Prop} {a:Nat} {w w':World} (b:Keep F w w'):oT F a a w w':=⟨fun _=>b,fun e=>absurd rfl e⟩
def sI (F:Nat->Prop) (a:Value->World->Prop):Prop:=∀b w w',a b w->Keep F w w'->a b w'
def kO (F:Nat->Prop) (a:Value):sI F (is a):=fun _ _ _ b _=>b
def xL {F:Nat->Prop} {c:List (Value->World->Prop)} (j:∀f∈c,sI F f):∀b d w w',Vs c b d w->Keep F w w'->Vs c b d w':=by
 intro b d w w' a k;unfold Vs at a⊢;rw [zAb] at a⊢;cases i:c[b]? with
 | none=>simp
 | some f=>rw [i] at a;simp only [Option.getD_some] at a⊢;exact j f (zAd i) d w w' a k
def VsJ (b:Nat) (d:Value->World->Prop) (c:List (Value->World->Prop)) (a:Nat):Value->World->Prop:=if a=b then d else Vs c a
def bL {P:Program} {ops:Array Oper} {Q:Exit->Act->World->Prop} {md:Region.Mode} (q:List Nat) (F:Nat->Prop) (b:Nat) (s:List Nat) (o:World->Prop) (m:Value->World->Prop) (l:List (Value->World->Prop)) (i:Act) (c:World)
 (I:ops.toList.filterMap (·.dst)=q) (K:fM md ops i.tmps.size=true)
 (N:(s.all fun a=>a==b||upB md ops ops.size b a)=true)
 (M:o c) (L:∀w w',o w->Keep F c w->Grow w w'->o w') (H:Stb m) (O:∀T∈l,sI F T)
 (R:∀d C,ops[d]?=some C->cE P ops Q md (Keep F c) (oT F b) (fun a w=>s.contains a=true->o w) (VsJ b m l) i d C)
 (J:∀(v:Operand->Value) w,Keep F c w->(∀a u,((ops[a]?).bind (·.dst))=some u->VsJ b m l a (v (.tmp u)) w)->(∀a,a < ops.size->∃p,VsJ b m l a p w)->Q .normal (cQ v q i) w):
 wpAny P md ops Q ops.size (Array.replicate ops.size false) i c:=by
 refine mC q (Keep F c) (oT F b) (fun a w=>s.contains a=true->o w) (VsJ b m l) i c I K (Keep.refl _ _) (fun _ _=>M) (fun d w w' D f=>D.trans (kZ f)) (fun a d w w' r S j E f y=>?_) (fun a d p w w' r _ k _ f=>?_) R J;by_cases z:d=b;exfalso;subst z;have x:=zBf.1 N a (by simpa using y);simp only [S,Bool.or_false,zCn] at x;exact r x;exact L w w' (j y) E (f.2 z);unfold VsJ at k⊢;by_cases j:a=b;rw [zBx j] at k⊢;exact H p w w' k (f.2 fun e=>r (j.trans e.symm));rw [zBw j] at k⊢;exact xL O a p w w' k (kZ f)
def Made.mono {w:World} {B B' sz n b:Nat} {e:TypeId} {A:Option Addr} {xs:List Value} (a:Made w B e sz A n b xs) (hB:B'<=B):Made w B' e sz A n b xs:=⟨dO a.own hB,a.rd,a.cap,a.max⟩
def qF (F:Nat->Prop) (e:TypeId) (cs:Array Value) (mk:Nat->Value):Value->World->Prop:=fun a w=>∃g,a=mk g/\Bk w g e cs/\¬F g
def aAe (F:Nat->Prop) (e:TypeId) (cs:Array Value) (mk:Nat->Value):sI F (qF F e cs mk):=fun _ _ _ ⟨g,b,c,a⟩ d=>⟨g,b,d.bk c a,a⟩
def cR:Value->World->Prop:=fun _ _=>True
def iG (F:Nat->Prop):sI F cR:=fun _ _ _ _ _=>trivial
end
end Go.Proofs.YtnmapianpjamnaaGreatDoor
