/- Lemmas of the walk. Conditions: each its own. -/
import Derived.WalkKit
import Derived.WalkSpells
import Derived.WalkLawsBesides
import Derived.WalkSmall
import Derived.Lib.Hide
import Derived.Maps.AppendAt
import Derived.Deep.AppendLies
import Derived.Laws.OwnMore
import Derived.OneCell
import Derived.Laws.BytesArg
import Derived.Laws.IdiomStrings
import Derived.ProofKit
import Derived.OpenShut
import Derived.ShutString
import Derived.ChangeOld
import Derived.Carry
import Derived.Laws.BitsLemmas
import Derived.Laws.Bits64
import Derived.Orders
import Derived.BigQuiet
import Derived.Deep.QuietTactic
import Derived.Lib.TrailingZeros
import Derived.LaidMore
import Derived.Lib.LaidTab
import Derived.Stop.Joined
import Derived.SevenTiedAt
import Derived.Shelf.SlSortCmp.Kit1
import Derived.Deep.LoopGhost
import Derived.StillTailTactics
import Derived.Laws.EntriesVeiled
import Derived.Shelf.SlCmpFuncs.None
import Derived.Lib.AppendZeros
import Derived.Lib.LazyBuf
import Derived.Sort.OwnSortedInts
import Derived.Lib.SlBytesConst
import GoSem.Op.String
import Derived.Laws.Rows
import Derived.Laws.Tables
import Derived.Laws.CopyOwn
import Derived.Deep.WholeRow
import Derived.Laws.StructEq
import Derived.Shelf.Sort.Plain
import Derived.RangeFuncNested
import Derived.RangeFuncBound
import Derived.RangeFuncCalls
import Derived.RangeFuncLeaves
import Derived.Shelf.Abstract
import Derived.Shelf.RegionOpen
import Derived.OwnWalkIn
import Derived.TacticsInMore
import Derived.LoopNIn
import Derived.LoopIn
import Derived.RangeFuncFrom
import Derived.Deep.Slices
import Derived.Deep.Fields
import Derived.Lib.SlBuf
import Derived.Lib.MakeNoZero
import Derived.Lib.MinMax
import Derived.Laws.AppendOwn
import Derived.Deep.CutRange
import Derived.Test.YthldmddkfbijhaaGreatDoorProg
set_option linter.all false
set_option maxRecDepth 100000
set_option maxHeartbeats 1000000
namespace Go.Proofs.YthldmddkfbijhaaGreatDoor
section
open Go.RowKit
instance cP:Coe Nat Value:=⟨fun g=>.pointer (some ⟨g,0,none⟩)⟩
instance cI:Coe Int Value:=⟨fun z=>.int .i64 z⟩
abbrev zAa:=@List.getElem?_eq_getElem
abbrev zAb:=@List.getD_eq_getElem?_getD
abbrev zAc:=@List.getElem?_eq_some_iff
abbrev zAd:=@List.mem_of_getElem?
abbrev zAe:=@List.forall_mem_cons
abbrev zAf:=@List.getElem?_map
abbrev zAg:=@List.take_of_length_le
abbrev zAh:=@Array.getElem?_eq_some_iff
abbrev zAi:=@List.length_append
abbrev zAj:=@List.length_take
abbrev zAk:=@Nat.le_trans
abbrev zAl:=@Nat.lt_of_lt_of_le
abbrev zAm:=@Array.getD_eq_getD_getElem?
abbrev zAn:=@List.getElem?_append_left
abbrev zAo:=@List.getElem?_append_right
abbrev zAp:=@Nat.zero_le
abbrev zAq:=@Array.getElem?_eq_getElem
abbrev zAr:=@List.pairwise_iff_getElem
abbrev zAs:=@Nat.le_refl
abbrev zAt:=@List.length_set
abbrev zAu:=@List.take_append_drop
abbrev zAv:=@List.take_add_one
abbrev zAw:=@List.length_drop
abbrev zAx:=@List.drop_eq_getElem_cons
abbrev zAy:=@List.mem_map
abbrev zAz:=@List.map_append
abbrev zBa:=@Nat.eq_zero_or_pos
abbrev zBb:=@Nat.add_sub_cancel
abbrev zBc:=@List.length_map
abbrev zBd:=@Bool.and_eq_true
abbrev zBe:=@Nat.lt_or_ge
abbrev zBf:=@List.all_eq_true
abbrev zBg:=@List.getElem?_eq_none
abbrev zBh:=@List.countP_le_length
abbrev zBi:=@Nat.zero_add
abbrev zBj:=@List.getElem_mem
abbrev zBk:=@List.eq_nil_of_length_eq_zero
abbrev zBl:=@Nat.mul_one
abbrev zBm:=@List.getElem?_set
abbrev zBn:=@List.countP_cons
abbrev zBo:=@List.mem_iff_getElem
abbrev zBp:=@Nat.pow_le_pow_right
abbrev zBq:=@Nat.add_zero
abbrev zBr:=@Int.toNat_natCast
abbrev zBs:=@List.getElem?_take
abbrev zBt:=@List.getElem?_drop
abbrev zBu:=@Nat.mod_eq_of_lt
abbrev zBv:=@List.count_le_length
abbrev zBw:=@if_neg
abbrev zBx:=@if_pos
abbrev zBy:=@decide_eq_false
abbrev zBz:=@decide_eq_true
abbrev zCa:=@decide_eq_true_eq
abbrev zCb:=@beq_eq_false_iff_ne
abbrev zCc:=@List.count_append
abbrev zCd:=@Array.getElem?_setIfInBounds
abbrev zCe:=@Array.getElem?_setIfInBounds_ne
abbrev zCf:=@List.getElem?_cons_succ
abbrev zCg:=@List.length_cons
abbrev zCh:=@List.map_map
abbrev zCi:=@List.length_range
abbrev zCj:=@List.mem_range
abbrev zCk:=@List.getElem?_range
abbrev zCl:=@Nat.lt_irrefl
abbrev zCm:=@Nat.le_of_lt
abbrev zCn:=@List.length_replicate
abbrev zCo:=@List.append_assoc
abbrev zCp:=@List.mem_append
abbrev zCq:=@beq_iff_eq
abbrev zCr:=@Nat.not_lt
abbrev zCs:=@Nat.add_comm
abbrev zCt:=@Nat.min_eq_left
abbrev zCu:=@List.length_filter_le
abbrev zCv:=@List.mem_filter
abbrev zCw:=@List.getElem?_toArray
abbrev zCx:=@List.length_eq_zero_iff
theorem eqx {α:Sort _} (a:α):∃x,a=x:=⟨_,rfl⟩
theorem tA0 {p:Prop} (h:p:=by repeat' (first|exact iR _ _ | exact fZ _|(refine zAe.2 ⟨?_,?_⟩)|(intro p hp;cases hp))):p:=h
theorem tA1 {p:Prop} (h:p:=by repeat' (first|exact gV _ _ | exact iX _|(refine zAe.2 ⟨?_,?_⟩)|(intro p hp;cases hp))):p:=h
theorem tA2 {p:Prop} (h:p:=by repeat' (first|exact aKA _ | exact aJu _ _ _|(refine zAe.2 ⟨?_,?_⟩)|(intro p hp;cases hp))):p:=h
theorem tA3 {p:Prop} (h:p:=by repeat' (first|exact iR _ _ | exact fZ _ | exact pX _ _ _ _|(refine zAe.2 ⟨?_,?_⟩)|(intro p hp;cases hp))):p:=h
theorem oM {p:Prop} (h:p:=by omega):p:=h
theorem dC {p:Prop} (h:p:=by decide):p:=h
theorem kR {p:Prop} (h:p:=by kernel_rfl):p:=h
theorem nL {n:Nat}:n<=n:=zAs n
theorem bR {B:Nat} {w:World}:Below B w w:=Below.refl B w
theorem zq1 {α β:Type} {f:β->α->β} {b:β} {a:α} {l:List α}:(a::l).foldl f b=l.foldl f (f b a):=rfl
theorem zq2 {α β:Type} {f:β->α->β} {b:β}:([]:List α).foldl f b=b:=rfl
theorem zq3 {α:Type} {l:List α} {i:Nat} {a:α}:l.toArray.setIfInBounds i a=(l.set i a).toArray:=List.setIfInBounds_toArray l i a
theorem zq4 {α:Type} {l:List α} {a b:α}:(a::l).set 0 b=b::l:=rfl
theorem zq5 {α:Type} {l:List α} {a b:α} {n:Nat}:(a::l).set (n+1) b=a::l.set n b:=rfl
theorem lhd {P:Prop} (h:P):Hid P:=Lib.hid h
theorem hqq2 {p0 p1:Prop} (h0:p0) (h1:p1):Hid p0/\Hid p1:=⟨lhd h0,lhd h1⟩
theorem hqq3 {p0 p1 p2:Prop} (h0:p0) (h1:p1) (h2:p2):Hid p0/\Hid p1/\Hid p2:=⟨lhd h0,lhd h1,lhd h2⟩
theorem hqq4 {p0 p1 p2 p3:Prop} (h0:p0) (h1:p1) (h2:p2) (h3:p3):Hid p0/\Hid p1/\Hid p2/\Hid p3:=⟨lhd h0,lhd h1,lhd h2,lhd h3⟩
theorem hqq5 {p0 p1 p2 p3 p4:Prop} (h0:p0) (h1:p1) (h2:p2) (h3:p3) (h4:p4):Hid p0/\Hid p1/\Hid p2/\Hid p3/\Hid p4:=⟨lhd h0,lhd h1,lhd h2,lhd h3,lhd h4⟩
theorem hqq6 {p0 p1 p2 p3 p4 p5:Prop} (h0:p0) (h1:p1) (h2:p2) (h3:p3) (h4:p4) (h5:p5):Hid p0/\Hid p1/\Hid p2/\Hid p3/\Hid p4/\Hid p5:=⟨lhd h0,lhd h1,lhd h2,lhd h3,lhd h4,lhd h5⟩
theorem hqq7 {p0 p1 p2 p3 p4 p5 p6:Prop} (h0:p0) (h1:p1) (h2:p2) (h3:p3) (h4:p4) (h5:p5) (h6:p6):Hid p0/\Hid p1/\Hid p2/\Hid p3/\Hid p4/\Hid p5/\Hid p6:=⟨lhd h0,lhd h1,lhd h2,lhd h3,lhd h4,lhd h5,lhd h6⟩
theorem hqq8 {p0 p1 p2 p3 p4 p5 p6 p7:Prop} (h0:p0) (h1:p1) (h2:p2) (h3:p3) (h4:p4) (h5:p5) (h6:p6) (h7:p7):Hid p0/\Hid p1/\Hid p2/\Hid p3/\Hid p4/\Hid p5/\Hid p6/\Hid p7:=⟨lhd h0,lhd h1,lhd h2,lhd h3,lhd h4,lhd h5,lhd h6,lhd h7⟩
theorem hqq9 {p0 p1 p2 p3 p4 p5 p6 p7 p8:Prop} (h0:p0) (h1:p1) (h2:p2) (h3:p3) (h4:p4) (h5:p5) (h6:p6) (h7:p7) (h8:p8):Hid p0/\Hid p1/\Hid p2/\Hid p3/\Hid p4/\Hid p5/\Hid p6/\Hid p7/\Hid p8:=⟨lhd h0,lhd h1,lhd h2,lhd h3,lhd h4,lhd h5,lhd h6,lhd h7,lhd h8⟩
theorem fL {a b:Int} (h:a=b):Ending.returned (.int .i64 a)=Ending.returned (.int .i64 b):=by rw [h]
theorem bX {a b:Bool} (h:a=b):Ending.returned (.bool a)=Ending.returned (.bool b):=by rw [h]
theorem dD {a b:Int} (h:a=b):Value.int .i64 a=Value.int .i64 b:=by rw [h]
theorem dN {k:IntKind} {a b:Int} (h:a=b):Value.int k a=Value.int k b:=by rw [h]
def bv (c:UInt8):Value:=.int .u8 (c.toNat:Int)
def iv (n:Int):Value:=.int .i64 n
theorem iM (l:List UInt8):∀u∈l.map bv,u.oneCell'=true:=by
 intro u hu;obtain ⟨c,_,rfl⟩:=zAy.1 hu;rfl
theorem iS (b off j:Nat):(⟨b,off,none⟩:Addr).add j=⟨b,off+j,none⟩:=by
 unfold Addr.add;split <;> simp_all
def Rd (w:World) (B sz:Nat) (A:Option Addr) (n:Nat) (xs:List Value):Prop:=
 xs.length=n*sz/\(0 < n->∃b off,A=some ⟨b,off,none⟩/\b < B/\∀j u,xs[j]?=some u->w.cell? ⟨b,off+j,none⟩=some u)
section
variable {w w' : World} {B B' sz n : Nat} {A : Option Addr} {xs : List Value}
theorem Rd.nil (w:World) (B sz:Nat) (A:Option Addr):Rd w B sz A 0 []:=⟨by simp,fun h=>absurd h oM⟩
theorem Rd.get {k:Nat} (h:Rd w B 1 A n xs) (hk:k < n):∃b off u,A=some ⟨b,off,none⟩/\b < B/\xs[k]?=some u/\w.cell? ⟨b,off+k,none⟩=some u:=by
 obtain ⟨b,off,e,hb,hc⟩:=h.2 oM;have hl:k < xs.length:=by have:=h.1;omega
 exact ⟨b,off,xs[k],e,hb,zAa hl,hc k _ (zAa hl)⟩
theorem Rd.keep (h:Rd w B sz A n xs) (hk:∀p:Addr,p.block < B->w'.cell? p=w.cell? p):Rd w' B sz A n xs:=
 ⟨h.1,fun hn=>by
   obtain ⟨b,off,e,hb,hc⟩:=h.2 hn;exact ⟨b,off,e,hb,fun j u hu=>(hk _ hb).trans (hc j u hu)⟩⟩
theorem Rd.mono (h:Rd w B sz A n xs) (hB:B<=B'):Rd w B' sz A n xs:=
 ⟨h.1,fun hn=>by
   obtain ⟨b,off,e,hb,hc⟩:=h.2 hn;exact ⟨b,off,e,by omega,hc⟩⟩
theorem Rd.below (h:Rd w B sz A n xs) (hb:Below B w w'):Rd w' B sz A n xs:=h.keep fun _ hp=>hb.cell hp
theorem Rd.drew (h:Rd w B sz A n xs):Rd w.drew B sz A n xs:=h
theorem Rd.drewN (h:Rd w B sz A n xs) (k:Nat):Rd (w.drewN k) B sz A n xs:=h
theorem Rd.alloc (h:Rd w B sz A n xs) (hB:B<=w.heap.size) (o:Obj):Rd (w.alloc o) B sz A n xs:=h.below (bR.alloc hB o)
theorem Rd.of_own {base:Nat} {e:TypeId} {c:Nat} (h:w.ownsRow base e sz (.slice A n c) n xs):Rd w w.heap.size sz A n xs:=by
 refine ⟨h.1,fun hn=>?_⟩;obtain ⟨g,cap,hv,_,hlt⟩:=h.form hn;have hA:A=some ⟨g,0,none⟩:=by injection hv
 subst hA;refine ⟨g,0,rfl,hlt,fun j u hu=>?_⟩;have:=h.cells (g:=g) rfl j u hu;rwa [iS] at this
def dP (A:Option Addr) (c k sz:Nat):Option Addr:=if c=k then A else A.map (·.add (k*sz))
theorem Rd.cut (h:Rd w B sz A n xs) {k cap:Nat} (hk:k<=n) (hc:n<=cap):Rd w B sz (dP A cap k sz) (n - k) (xs.drop (k*sz)):=by
 refine ⟨by rw [zAw,h.1,Nat.sub_mul],fun hn=>?_⟩;obtain ⟨b,off,rfl,hb,hcell⟩:=h.2 oM;rw [dP,zBw oM];refine ⟨b,off+k*sz,by simp [iS],hb,fun j u hu=>?_⟩;rw [Nat.add_assoc];exact hcell _ u (by rw [<-hu,zBt])
theorem Rd.cut_hi (h:Rd w B sz A n xs) {k:Nat} (hk:k<=n):Rd w B sz A k (xs.take (k*sz)):=by
 have hle:k*sz<=n*sz:=Nat.mul_le_mul_right _ hk;refine ⟨by rw [zAj,h.1];omega,fun hn=>?_⟩;obtain ⟨b,off,rfl,hb,hcell⟩:=h.2 oM;refine ⟨b,off,rfl,hb,fun j u hu=>hcell j u ?_⟩;rw [zBs] at hu;split at hu;exact hu
 · cases hu
theorem Rd.cut_hi0 (h:Rd w B sz A n xs) {k cap:Nat} (hk:k<=n):Rd w B sz (dP A cap 0 sz) k (xs.take (k*sz)):=by
 have h1:=h.cut_hi hk;refine ⟨h1.1,fun hn=>?_⟩;obtain ⟨b,off,rfl,hb,hc⟩:=h1.2 hn;refine ⟨b,off,?_,hb,hc⟩;unfold dP;split <;> simp [iS]
end
section
variable {P : Program} (t e : TypeId) (sz : Nat) (ht : P.underlying t = some (.slice e)) (hs : ∀ w, (sizeOf e).run P w = .ok sz w)
include ht hs
theorem iL (A:Option Addr) (n c k:Nat) (hk:k<=n) (w:World):
 (Instr.sliceAt t (.slice A n c) (some (.int .i64 (k:Int))) none none).run P w=.ok (.slice (dP A c k sz) (n - k) (c - k)) w:=by
 have he:P.elem t=e:=by simp [Program.elem,ht]
 have ht':P.underlying t=some (.slice (P.elem t)):=by rw [he];exact ht
 rw [run_sliceAt_slice (h:=ht'),run_slice_l (ht:=ht') (h0:=oM) (h1:=oM),he,hs];simp [Result.andThen,sliced,dP]
theorem mI (A:Option Addr) (n c k:Nat) (hk:k<=c) (w:World):
 (Instr.sliceAt t (.slice A n c) none (some (.int .i64 (k:Int))) none).run P w=.ok (.slice (dP A c 0 sz) k c) w:=by
 have he:P.elem t=e:=by simp [Program.elem,ht]
 have ht':P.underlying t=some (.slice (P.elem t)):=by rw [he];exact ht
 rw [run_sliceAt_slice (h:=ht'),run_slice_h (ht:=ht') (h0:=oM) (h2:=oM),he,hs];simp [Result.andThen,sliced,dP]
theorem qZ (A:Option Addr) (n c k h:Nat) (hk:k<=h) (hh:h<=c) (w:World):
 (Instr.sliceAt t (.slice A n c) (some (.int .i64 (k:Int))) (some (.int .i64 (h:Int))) none).run P w=.ok (.slice (dP A c k sz) (h - k) (c - k)) w:=by
 have he:P.elem t=e:=by simp [Program.elem,ht]
 have ht':P.underlying t=some (.slice (P.elem t)):=by rw [he];exact ht
 rw [run_sliceAt_slice (h:=ht'),run_slice_lh (ht:=ht') (h0:=oM) (h1:=oM) (h2:=oM),he,hs];simp [Result.andThen,sliced,dP]
end
theorem aV {w:World} {base:Nat} {e:TypeId} {sz:Nat} {v:Value} {n:Nat} {xs:List Value} (h:w.ownsRow base e sz v n xs):
 ∃A c,v=.slice A n c/\n<=c/\(∀a,A=some a->base<=a.block/\a.block < w.heap.size):=by
 rcases h.2 with ⟨rfl,rfl⟩|⟨g,cap,cur,rfl,hb,hg,hn,_⟩;exact ⟨none,0,rfl,zAs _,fun a h=>by cases h⟩
 · exact ⟨_,cap,rfl,hn,fun a h=>by cases h;exact ⟨hb,(zAh.1 hg).1⟩⟩
def Bk (w:World) (g:Nat) (t:TypeId) (cs:Array Value):Prop:=w.heap[g]?=some (.cells cs t (0,0))
section
variable {w w' : World} {g : Nat} {t : TypeId} {cs : Array Value}
theorem Bk.lt (h:Bk w g t cs):g < w.heap.size:=lt_of_block h
theorem Bk.cell (h:Bk w g t cs) (i:Nat):w.cell? ⟨g,i,none⟩=cs[i]?:=cell_of_row w g i cs t (0,0) h
theorem Bk.frozen (h:Bk w g t cs) (i:Nat):w.frozen? ⟨g,i,none⟩=false:=frozen_of_row w g i cs t h
theorem Bk.new (w:World) (t:TypeId) (cs:Array Value):Bk (w.alloc (.cells cs t)) w.heap.size t cs:=heap_alloc_new w _
theorem Bk.drew (h:Bk w g t cs):Bk w.drew g t cs:=h
theorem Bk.drewN (h:Bk w g t cs) (n:Nat):Bk (w.drewN n) g t cs:=h
theorem Bk.alloc (h:Bk w g t cs) (o:Obj):Bk (w.alloc o) g t cs:=(Below.heap_alloc w o g h.lt).trans h
theorem Bk.set (h:Bk w g t cs) (i:Nat) (u:Value):Bk (w.setCell ⟨g,i,none⟩ u) g t (cs.setIfInBounds i u):=heap_setCell_same w g i cs t u h
theorem Bk.far (h:Bk w g t cs) {p:Addr} (hp:g≠p.block) (u:Value):Bk (w.setCell p u) g t cs:=(heap_setCell_other w p g u hp).trans h
theorem Bk.below {B:Nat} (h:Bk w g t cs) (hb:Below B w w') (hg:g < B):Bk w' g t cs:=(hb.block g hg).trans h
theorem Bk.grown {row:Option Nat} (h:Bk w g t cs) (hb:w.grownBy w' row) (hg:some g≠row):Bk w' g t cs:=(hb.block g h.lt hg).trans h
theorem Bk.ne {g':Nat} {t':TypeId} {cs':Array Value} (h:Bk w g t cs) (h':Bk w g' t' cs') (hne:t≠t'):g≠g':=by
 rintro rfl;unfold Bk at h h';rw [h] at h';injection h' with h';injection h' with _ ht;exact hne ht
end
structure Keep (F:Nat->Prop) (w w':World):Prop where
 os:w'.os=w.os
 tape:w'.tape=w.tape
 output:w'.output=w.output
 size:w.heap.size<=w'.heap.size
 block:∀k,k < w.heap.size->¬F k->w'.heap[k]?=w.heap[k]?
theorem kD {F:Nat->Prop} {w w':World} (h:Keep F w.drew w'):Keep F w w':=⟨h.os,h.tape,h.output,h.size,h.block⟩
section
variable {F G : Nat -> Prop} {w w1 w' : World}
theorem Keep.refl (F:Nat->Prop) (w:World):Keep F w w:=⟨rfl,rfl,rfl,zAs _,fun _ _ _=>rfl⟩
theorem Keep.trans (h:Keep F w w1) (k:Keep F w1 w'):Keep F w w':=
 ⟨k.os.trans h.os,k.tape.trans h.tape,k.output.trans h.output,zAk h.size k.size,fun i hi hn=>(k.block i (zAl hi h.size) hn).trans (h.block i hi hn)⟩
theorem Keep.trans' (h:Keep F w w1) (k:Keep G w1 w') (hg:∀b,b < w.heap.size->G b->F b):Keep F w w':=
 ⟨k.os.trans h.os,k.tape.trans h.tape,k.output.trans h.output,zAk h.size k.size,fun i hi hn=>(k.block i (zAl hi h.size) (fun g=>hn (hg i hi g))).trans (h.block i hi hn)⟩
theorem Keep.mono (h:Keep F w w') (hf:∀b,b < w.heap.size->F b->G b):Keep G w w':=⟨h.os,h.tape,h.output,h.size,fun i hi hn=>h.block i hi (fun f=>hn (hf i hi f))⟩
theorem Keep.of_below (h:Below w.heap.size w w'):Keep F w w':=⟨h.os,h.tape,h.output,h.size,fun i hi _=>h.block i hi⟩
theorem Keep.to_below (h:Keep F w w') {B:Nat} (hB:B<=w.heap.size) (hf:∀b,b < B->¬F b):Below B w w':=⟨h.os,h.tape,h.output,h.size,fun i hi=>h.block i oM (hf i hi)⟩
theorem Keep.setCell (h:Keep F w w1) {p:Addr} (hp:F p.block∨w.heap.size<=p.block) (u:Value):Keep F w (w1.setCell p u):=
 ⟨h.os,h.tape,h.output,by simpa [World.setCell] using h.size,fun i hi hn=>(heap_setCell_other w1 p i u (by
  rintro rfl;rcases hp with hp | hp;exact hn hp
  · omega)).trans (h.block i hi hn)⟩
theorem Keep.alloc (h:Keep F w w1) (o:Obj):Keep F w (w1.alloc o):=
 ⟨h.os,h.tape,h.output,zAk h.size (by simp),fun i hi hn=>(Below.heap_alloc w1 o i (zAl hi h.size)).trans (h.block i hi hn)⟩
theorem Keep.drew (h:Keep F w w1):Keep F w w1.drew:=⟨h.os,h.tape,h.output,h.size,h.block⟩
theorem Keep.drewN (h:Keep F w w1) (n:Nat):Keep F w (w1.drewN n):=⟨h.os,h.tape,h.output,h.size,h.block⟩
theorem Keep.grown (h:Keep F w w1) {row:Option Nat} (hg:w1.grownBy w' row) (hr:∀k,row=some k->F k∨w.heap.size<=k):Keep F w w':=
 ⟨hg.os.trans h.os,hg.tape.trans h.tape,hg.output.trans h.output,zAk h.size hg.size,fun i hi hn=>
  (hg.block i (zAl hi h.size) (fun e=>by rcases hr i e.symm with f | f;exact hn f;omega)).trans (h.block i hi hn)⟩
theorem Keep.cell (h:Keep F w w') {p:Addr} (hp:p.block < w.heap.size) (hn:¬F p.block):w'.cell? p=w.cell? p:=World.cell?_of_block (h.block p.block hp hn)
theorem Keep.bk {g:Nat} {t:TypeId} {cs:Array Value} (h:Keep F w w') (hb:Bk w g t cs) (hn:¬F g):Bk w' g t cs:=(h.block g hb.lt hn).trans hb
theorem Keep.rd {B sz n:Nat} {A:Option Addr} {xs:List Value} (h:Keep F w w') (hr:Rd w B sz A n xs) (hB:B<=w.heap.size) (hn:∀b,b < B->¬F b):Rd w' B sz A n xs:=
 hr.keep fun p hp=>h.cell oM (hn _ hp)
end
section
variable {P : Program} (w : World)
theorem rA (base:Nat) (t ty e:TypeId) (i:TypeInfo) (sz:Nat) (ht:P.underlying t=some (.slice e)) (hi:P.info? e=some i)
 (v:Value) (n:Nat) (xs:List Value) (hown:w.ownsRow base e sz v n xs) (c:Nat):(Builtin.append_ #[t,t] ty #[v,.slice none 0 c]).run P w=.ok v w:=by
 rcases hown.2 with ⟨rfl,rfl⟩|⟨g,cap,cur,rfl,_,_,hnc,_⟩
 · simp [Builtin.append_,run_underlying ht,sizeOf,typeInfo,hi,Builtin.lenOf,Builtin.firstCells]
 · simp [Builtin.append_,run_underlying ht,sizeOf,typeInfo,hi,Builtin.lenOf,Builtin.firstCells,hnc,storeCells]
theorem zN (base:Nat) (t ty e:TypeId) (i:TypeInfo) (z:Value) (sz bytes:Nat) (ht:P.underlying t=some (.slice e)) (hi:P.info? e=some i) (hz:i.zero=some z)
 (hsize:i.size=sz) (hby:i.bytes=bytes) (hzs:z.cells.size=sz) (hsz:0 < sz)
 (v:Value) (n:Nat) (xs:List Value) (hown:w.ownsRow base e sz v n xs)
 (B:Nat) (A:Option Addr) (m c:Nat) (news:List Value) (hr:Rd w B sz A m news) (h1:∀u∈news,u.oneCell'=true)
 (h63:n+m<=maxLen) (hbytes:(n+m)*bytes<=140737488355328) (hbase:base<=w.heap.size):
 ∃v' w',(Builtin.append_ #[t,t] ty #[v,.slice A m c]).run P w=.ok v' w'/\w'.ownsRow base e sz v' (n+m) (xs++news)/\w.grownBy w' v.ownBlock/\
  (v'.ownBlock=v.ownBlock∨v'.ownBlock=some w.heap.size):=by
 rcases A with _ | ad
 · have hm:m=0:=by
    rcases zBa m with h0 | h0;exact h0
    · obtain ⟨_,_,h,_⟩:=hr.2 h0;cases h
   subst hm;have hn:news= []:=zBk (by simpa using hr.1);subst hn;exact ⟨v,w,rA w base t ty e i sz ht hi v n xs hown c,by simpa using hown,World.grownBy.refl w _,.inl rfl⟩
 · have hcells:∀j u,news[j]?=some u->w.cell? (ad.add j)=some u:=by
    intro j u hu;rcases zBa m with h0 | h0
    · subst h0;have hn:news= []:=zBk (by simpa using hr.1);subst hn;simp at hu
    obtain ⟨b,off,h,_,hc⟩:=hr.2 h0;injection h with h;subst h;rw [iS];exact hc j u hu
   obtain ⟨v',w',hrun,h2,h3,_,h5⟩:=run_append_own_at (P:=P) w base t ty e i z sz bytes ht hi hz hsize hby hzs hsz v n xs hown ad m c news hr.1 hcells h1 h63 hbytes hbase;exact ⟨v',w',hrun,h2,h3,h5⟩
theorem dS {o:Oper} {a:Act} {K:Act->World->Prop} {Q:Exit->Act->World->Prop} (s x:Operand) (t:TypeId)
 (ho:o.op=.call { callee:=.builtin .append,args:=#[s,x],argTypes:=#[t,t] })
 (base:Nat) (e:TypeId) (i:TypeInfo) (z:Value) (sz bytes:Nat) (ht:P.underlying t=some (.slice e)) (hi:P.info? e=some i) (hz:i.zero=some z)
 (hsize:i.size=sz) (hby:i.bytes=bytes) (hzs:z.cells.size=sz) (hsz:0 < sz)
 (v:Value) (n:Nat) (xs:List Value) (hs:a.eval s=v) (hown:w.ownsRow base e sz v n xs)
 (B:Nat) (A:Option Addr) (m c:Nat) (news:List Value) (hx:a.eval x=.slice A m c) (hr:Rd w B sz A m news) (h1:∀u∈news,u.oneCell'=true)
 (h63:n+m<=maxLen) (hbytes:(n+m)*bytes<=140737488355328) (hbase:base<=w.heap.size)
 (h:∀v' w',w'.ownsRow base e sz v' (n+m) (xs++news)->w.grownBy w' v.ownBlock->(v'.ownBlock=v.ownBlock∨v'.ownBlock=some w.heap.size)->K (a.put o.dst v') w'):o.wp P a w K Q:=by
 obtain ⟨v',w',hrun,h2,h3,h4⟩:=zN (P:=P) w base t o.type e i z sz bytes ht hi hz hsize hby hzs hsz v n xs hown B A m c news hr h1 h63 hbytes hbase;unfold Oper.wp execOp;simp only [ho,resolve,invoke,builtin,Sem.run_bind,Sem.run_pure,Result.andThen_ok,List.map_toArray,List.map_cons,List.map_nil,hs,hx,hrun];exact h v' w' h2 h3 h4
theorem aX {ops:Array Oper} {rest:List Oper} {o:Oper} {a:Act} {Q:Exit->Act->World->Prop} (hgd:o.guard=none) (s x:Operand) (t:TypeId)
 (ho:o.op=.call { callee:=.builtin .append,args:=#[s,x],argTypes:=#[t,t] })
 (base:Nat) (e:TypeId) (i:TypeInfo) (z:Value) (sz bytes:Nat) (ht:P.underlying t=some (.slice e)) (hi:P.info? e=some i) (hz:i.zero=some z)
 (hsize:i.size=sz) (hby:i.bytes=bytes) (hzs:z.cells.size=sz) (hsz:0 < sz)
 (v:Value) (n:Nat) (xs:List Value) (hs:a.eval s=v) (hown:w.ownsRow base e sz v n xs)
 (B:Nat) (A:Option Addr) (m c:Nat) (news:List Value) (hx:a.eval x=.slice A m c) (hr:Rd w B sz A m news) (h1:∀u∈news,u.oneCell'=true)
 (h63:n+m<=maxLen) (hbytes:(n+m)*bytes<=140737488355328) (hbase:base<=w.heap.size)
 (h:∀v' w',w'.ownsRow base e sz v' (n+m) (xs++news)->w.grownBy w' v.ownBlock->(v'.ownBlock=v.ownBlock∨v'.ownBlock=some w.heap.size)->wpList P ops Q rest (a.put o.dst v') w'):wpList P ops Q (o::rest) a w:=
 wpList_plain hgd fun _ hK=>dS w s x t ho base e i z sz bytes ht hi hz hsize hby hzs hsz v n xs hs hown B A m c news hx hr h1 h63 hbytes hbase fun v' w' h2 h3 h4=>hK _ _ (h v' w' h2 h3 h4)
end
theorem Rd.new_ (w:World) (e:TypeId) (sz:Nat) (cs:Array Value) (hs:cs.size=sz):Rd (w.alloc (.cells cs e)) (w.heap.size+1) sz (some ⟨w.heap.size,0,none⟩) 1 cs.toList:=by
 refine ⟨by simp [hs],fun _=>⟨_,0,rfl,by omega,fun j u hu=>?_⟩⟩;rw [(Bk.new w e cs).cell];simpa using hu
theorem Rd.made (w:World) (e:TypeId) (sz n:Nat) (cs:Array Value) (hs:cs.size=n*sz):Rd (w.alloc (.cells cs e)) (w.alloc (.cells cs e)).heap.size sz (some ⟨w.heap.size,0,none⟩) n cs.toList:=by
 refine ⟨by simp [hs],fun _=>⟨_,0,rfl,by simp,fun j u hu=>?_⟩⟩;rw [(Bk.new w e cs).cell];simpa using hu
theorem Rd.made' (w:World) (e:TypeId) (sz n:Nat) (cs:Array Value) (g:Nat) (hs:cs.size=n*sz) (hg:g=w.heap.size):Rd (w.alloc (.cells cs e)) (w.alloc (.cells cs e)).heap.size sz (some ⟨g,0,none⟩) n cs.toList:=by
 subst hg;exact Rd.made w e sz n cs hs
structure Made (w:World) (B:Nat) (e:TypeId) (sz:Nat) (A:Option Addr) (n c:Nat) (xs:List Value):Prop where
 own:w.ownsRow B e sz (.slice A n c) n xs
 rd:Rd w w.heap.size sz A n xs
 cap:n<=c
 max:c<=maxLen
theorem aS {w:World} {B:Nat} {e:TypeId} {sz:Nat} {v:Value} {n:Nat} {xs:List Value} (h:w.ownsRow B e sz v n xs):∃A c,v=.slice A n c/\Made w B e sz A n c xs:=by
 rcases h.2 with ⟨rfl,rfl⟩|⟨g,cap,cur,rfl,hb,hg,hn,hm,_⟩;exact ⟨none,0,rfl,h,Rd.of_own h,zAs _,zAp _⟩;exact ⟨_,cap,rfl,h,Rd.of_own h,hn,hm⟩
theorem Made.below {w w':World} {B:Nat} {e:TypeId} {sz:Nat} {A:Option Addr} {n c:Nat} {xs:List Value} (h:Made w B e sz A n c xs) (hb:Below w.heap.size w w'):Made w' B e sz A n c xs:=
 ⟨h.own.kept (row:=none) ⟨hb.os,hb.tape,hb.output,hb.size,fun k hk _=>hb.block k hk⟩ (by cases A <;> simp [Value.ownBlock]),(h.rd.below hb).mono hb.size,h.cap,h.max⟩
theorem Made.len {w:World} {B:Nat} {e:TypeId} {A:Option Addr} {n c:Nat} {xs:List Value} (h:Made w B e 1 A n c xs):xs.length=n:=by have:=h.rd.1;omega
theorem jW (w:World) (e:TypeId) (sz:Nat):(w.alloc (.cells #[] e)).ownsRow w.heap.size e sz (.slice (some ⟨w.heap.size,0,none⟩) 0 0) 0 []:=
 World.ownsRow_made w #[] 0 nL (zAp _) (by simp)
theorem aP {w w':World} {B:Nat} {e:TypeId} {sz n:Nat} {v:Value} {xs:List Value} (h:w.ownsRow B e sz v n xs) (hb:Below w.heap.size w w'):w'.ownsRow B e sz v n xs:=
 h.kept (row:=none) ⟨hb.os,hb.tape,hb.output,hb.size,fun k hk _=>hb.block k hk⟩ (by cases v.ownBlock <;> simp)
theorem aY {w:World} {base:Nat} {e t:TypeId} {sz n g:Nat} {v:Value} {xs:List Value} {cs:Array Value} (h:w.ownsRow base e sz v n xs) (hg:Bk w g t cs) (hne:e≠t):some g≠v.ownBlock:=by
 rcases h.2 with ⟨rfl,_⟩|⟨g',cap,cur,rfl,_,hh,_⟩
 · simp [Value.ownBlock]
 intro he;have:g=g':=(by simpa [Value.ownBlock] using he);subst this;exact Bk.ne (t:=e) hh hg hne rfl
theorem aEn {w:World} {b1 b2:Nat} {e1 e2:TypeId} {s1 s2 n1 n2:Nat} {v1 v2:Value} {x1 x2:List Value} (h1:w.ownsRow b1 e1 s1 v1 n1 x1) (h2:w.ownsRow b2 e2 s2 v2 n2 x2) (hne:e2≠e1):v1.ownBlock=none∨v1.ownBlock≠v2.ownBlock:=by
 rcases h1.2 with ⟨rfl,_⟩|⟨g,cap,cur,rfl,_,hg,_⟩;exact .inl rfl;exact .inr (aY h2 hg hne)
theorem bF {w:World} {B B':Nat} {e:TypeId} {sz n:Nat} {v:Value} {xs:List Value} (h:w.ownsRow B e sz v n xs) (hB:B'<=B):w.ownsRow B' e sz v n xs:=by
 refine ⟨h.1,?_⟩;rcases h.2 with h1 |⟨g,cap,cur,h1,h2,h3⟩;exact .inl h1;exact .inr ⟨g,cap,cur,h1,zAk hB h2,h3⟩
theorem xQ {w w':World} {o:Obj} {row:Option Nat} (h:(w.alloc o).grownBy w' row):w.grownBy w' row:=
 ⟨h.os,h.tape,h.output,zAk (by simp) h.size,fun k hk hn=>(h.block k (by simp;omega) hn).trans (Below.heap_alloc w o k hk)⟩
theorem bP {P:Program} {w:World} {ops:Array Oper} {rest:List Oper} {o:Oper} {a:Act} {Q:Exit->Act->World->Prop} (cs:Array Value) (hgd:o.guard=none) (s x:Operand) (t:TypeId)
 (ho:o.op=.call { callee:=.builtin .append,args:=#[s,x],argTypes:=#[t,t] })
 (base:Nat) (e:TypeId) (i:TypeInfo) (z:Value) (sz bytes:Nat) (ht:P.underlying t=some (.slice e)) (hi:P.info? e=some i) (hz:i.zero=some z)
 (hsize:i.size=sz) (hby:i.bytes=bytes) (hzs:z.cells.size=sz) (hsz:0 < sz)
 (v:Value) (n:Nat) (xs:List Value) (hs:a.eval s=v) (hown:w.ownsRow base e sz v n xs)
 (hx:a.eval x=.slice (some ⟨w.heap.size,0,none⟩) 1 1) (hcs:cs.size=sz) (h1:∀u∈cs.toList,u.oneCell'=true)
 (h63:n+1<=maxLen) (hbytes:(n+1)*bytes<=140737488355328) (hbase:base<=w.heap.size)
 (h:∀v' w',w'.ownsRow base e sz v' (n+1) (xs++cs.toList)->w.grownBy w' v.ownBlock->w.heap.size < w'.heap.size->(v'.ownBlock=v.ownBlock∨v'.ownBlock=some (w.heap.size+1))->wpList P ops Q rest (a.put o.dst v') w'):wpList P ops Q (o::rest) a (w.alloc (.cells cs e)):=
 aX _ hgd s x t ho base e i z sz bytes ht hi hz hsize hby hzs hsz v n xs hs (hown.alloc _) _ _ 1 1 cs.toList hx (Rd.new_ w e sz cs hcs) h1 h63 hbytes (by simp;omega)
  fun v' w' h2 h3 h4=>h v' w' h2 (xQ h3) (by have:=h3.size;simp at this;omega) (by simpa using h4)
theorem aCo {P:Program} (t:TypeId) (h:P.underlying t=some .string) (s:ByteArray) (j:Nat) (hj:j < s.size) (W:World):
 (Instr.index t (.string s) (.int .i64 (j:Int))).run P W=.ok (.int .u8 ((s[j]'hj).toNat:Int)) W:=by
 rw [run_index_string (h:=h),dif_pos oM];rfl
theorem gL {P:Program} {w:World} {B n c:Nat} {A:Option Addr} {l:List UInt8} (src dst e:TypeId) (hs:P.underlying src=some (.slice e)) (he:P.underlying e=some (.int .u8)) (hd:P.underlying dst=some .string)
 (hr:Rd w B 1 A n (l.map bv)):(convert src dst (.slice A n c)).run P w=.ok (.string ⟨l.toArray⟩) w:=by
 have hn:l.length=n:=by simpa using hr.1
 subst hn;rcases zBa l.length with h0 | h0;have:l= []:=zBk h0;subst this;have hl:=run_loadCells_list (P:=P) w (A.getD ⟨0,0,none⟩) [] (fun j v hj=>by simp at hj);rcases A with _ | a;exact run_convert_bytes_nil w src e hs he _ _ dst hd;exact run_convert_bytes_back w src dst e a c [] hs he hd (fun j hj=>by simp at hj)
 · obtain ⟨b,off,rfl,_,hc⟩:=hr.2 h0;refine run_convert_bytes_back w src dst e _ c l hs he hd fun j hj=>?_;rw [iS];exact hc j _ (by rw [zAf,zAa hj];rfl)
theorem qA {P:Program} {f:FuncId} {args:Array Value} {w:World} {n:Nat} {v:Value}
 (h:Calls P f args (w.drewN n) fun e w'=>e=.returned v/\w.drewN n=w'):Calls P f args (w.drewN n) fun e w''=>e=.returned v/\∃m,w''=w.drewN m:=
 h.mono fun _ _ ⟨he,hm⟩=>⟨he,n,hm.symm⟩
theorem aZ {B:Nat} {w0 w w':World} {e:TypeId} {sz n:Nat} {v:Value} {xs:List Value} (h:Below B w0 w) (ho:w.ownsRow B e sz v n xs) (hg:w.grownBy w' v.ownBlock) (hB:B<=w.heap.size):Below B w0 w':=
 h.grown hg hB fun k hk=>(ho.lt k hk).1
end
section
def bJ (x n:Nat):Nat:=(List.range n).countP (fun i=>x.testBit i)
theorem oP (x:Nat):bJ x 0=0:=rfl
theorem dK (x n:Nat):bJ x (n+1)=bJ x n+if x.testBit n then 1 else 0:=by
 unfold bJ;rw [List.range_succ,List.countP_append,List.countP_singleton]
theorem oQ (x n:Nat):bJ x n<=n:=by
 induction n with
 | zero=>exact zAs _
 | succ n ih=>
   rw [dK];split <;> omega
theorem aCJ (x n m:Nat):bJ x (n+m)=bJ x n+bJ (x >>> n) m:=by
 induction m with
 | zero=>simp [oP]
 | succ m ih=>
   rw [<-Nat.add_assoc,dK,ih,dK,Nat.testBit_shiftRight];omega
theorem aCI (x n:Nat):bJ (x % 2 ^ n) n=bJ x n:=by
 unfold bJ;apply List.countP_congr;intro i hi;have:=zCj.1 hi;simp [Nat.testBit_mod_two_pow,this]
theorem fQ (A a M m s:Nat) (ha:a < 256) (hs:s<=8) (hm:m < 2 ^(8 - s)):((256*A+a)>>> s)&&&(256*M+m)=256*((A >>> s)&&& M)+((a >>> s)&&& m):=by
 apply Nat.eq_of_testBit_eq;intro i;have hm8:m < 2 ^ 8:=zAl hm (zBp dC oM);have h1:((a >>> s)&&& m) < 2 ^ 8:=Nat.lt_of_le_of_lt Nat.and_le_right hm8;rw [Nat.testBit_and,Nat.testBit_shiftRight,show (256:Nat)=2 ^ 8 by decide,Nat.testBit_two_pow_mul_add _ (by simpa using ha),Nat.testBit_two_pow_mul_add _ hm8,Nat.testBit_two_pow_mul_add _ h1];by_cases hi:i < 8
 · by_cases h2:s+i < 8
   · simp [hi,h2,Nat.testBit_and]
   · have h3:m.testBit i=false:=Nat.testBit_lt_two_pow (zAl hm (zBp dC oM));simp [hi,h2,Nat.testBit_and,h3]
 · have h2:¬(s+i < 8):=oM;have h3:s+i - 8=s+(i - 8):=oM;simp [hi,h2,h3,Nat.testBit_and]
def b1 (a:Nat):Nat:=(a >>> 1&&& 85)+(a&&& 85)
def b2 (a:Nat):Nat:=(a >>> 2&&& 51)+(a&&& 51)
theorem aLo:∀a:Fin 256,b1 a.val < 256/\b2 (b1 a.val)/ 16<=4/\b2 (b1 a.val)% 16<=4/\b2 (b1 a.val)% 16+b2 (b1 a.val)/ 16=bJ a.val 8:=by decide+kernel
theorem aC3 (a:Nat) (h:a < 256):b1 a < 256/\b2 (b1 a)/ 16<=4/\b2 (b1 a)% 16<=4/\b2 (b1 a)% 16+b2 (b1 a)/ 16=bJ a 8:=aLo ⟨a,h⟩
def cM (a0 a1 a2 a3 a4 a5 a6 a7:Nat):Nat:=256*(256*(256*(256*(256*(256*(256*(256*0+a7)+a6)+a5)+a4)+a3)+a2)+a1)+a0
theorem qK (a0 a1 a2 a3 a4 a5 a6 a7 s m:Nat) (h0:a0 < 256) (h1:a1 < 256) (h2:a2 < 256) (h3:a3 < 256) (h4:a4 < 256) (h5:a5 < 256) (h6:a6 < 256) (h7:a7 < 256) (hs:s<=8) (hm:m < 2 ^(8 - s)):
 (cM a0 a1 a2 a3 a4 a5 a6 a7 >>> s)&&& cM m m m m m m m m=cM (a0 >>> s&&& m) (a1 >>> s&&& m) (a2 >>> s&&& m) (a3 >>> s&&& m) (a4 >>> s&&& m) (a5 >>> s&&& m) (a6 >>> s&&& m) (a7 >>> s&&& m):=by
 unfold cM;rw [fQ _ _ _ _ _ h0 hs hm,fQ _ _ _ _ _ h1 hs hm,fQ _ _ _ _ _ h2 hs hm,fQ _ _ _ _ _ h3 hs hm,fQ _ _ _ _ _ h4 hs hm,fQ _ _ _ _ _ h5 hs hm,fQ _ _ _ _ _ h6 hs hm,fQ _ _ _ _ _ h7 hs hm];simp
theorem tR (a0 a1 a2 a3 a4 a5 a6 a7 m:Nat) (h0:a0 < 256) (h1:a1 < 256) (h2:a2 < 256) (h3:a3 < 256) (h4:a4 < 256) (h5:a5 < 256) (h6:a6 < 256) (h7:a7 < 256) (hm:m < 256):
 cM a0 a1 a2 a3 a4 a5 a6 a7&&& cM m m m m m m m m=cM (a0&&& m) (a1&&& m) (a2&&& m) (a3&&& m) (a4&&& m) (a5&&& m) (a6&&& m) (a7&&& m):=by
 have:=qK a0 a1 a2 a3 a4 a5 a6 a7 0 m h0 h1 h2 h3 h4 h5 h6 h7 oM (by simpa using hm);simpa using this
theorem jZ (a0 a1 a2 a3 a4 a5 a6 a7 c0 c1 c2 c3 c4 c5 c6 c7:Nat):
 cM a0 a1 a2 a3 a4 a5 a6 a7+cM c0 c1 c2 c3 c4 c5 c6 c7=cM (a0+c0) (a1+c1) (a2+c2) (a3+c3) (a4+c4) (a5+c5) (a6+c6) (a7+c7):=by
 unfold cM;omega
def aCi (x:Nat):Nat:=
 let y1:=(x >>> 1&&& 6148914691236517205)+(x&&& 6148914691236517205)
 let y2:=(y1 >>> 2&&& 3689348814741910323)+(y1&&& 3689348814741910323)
 (y2 >>> 4+y2)&&& 1085102592571150095
theorem aIO (x:Nat) (h:x < 18446744073709551616):x=cM (x % 256) (x / 256 % 256) (x / 65536 % 256) (x / 16777216 % 256) (x / 4294967296 % 256) (x / 1099511627776 % 256) (x / 281474976710656 % 256) (x / 72057594037927936 % 256):=by
 unfold cM;omega
theorem aDX (a0 a1 a2 a3 a4 a5 a6 a7:Nat) (h0:a0 < 256) (h1:a1 < 256) (h2:a2 < 256) (h3:a3 < 256) (h4:a4 < 256) (h5:a5 < 256) (h6:a6 < 256) (h7:a7 < 256):
 aCi (cM a0 a1 a2 a3 a4 a5 a6 a7)=cM (bJ a0 8) (bJ a1 8) (bJ a2 8) (bJ a3 8) (bJ a4 8) (bJ a5 8) (bJ a6 8) (bJ a7 8):=by
 have m1:(6148914691236517205:Nat)=cM 85 85 85 85 85 85 85 85:=dC;have m2:(3689348814741910323:Nat)=cM 51 51 51 51 51 51 51 51:=dC;have m3:(1085102592571150095:Nat)=cM 15 15 15 15 15 15 15 15:=dC;obtain ⟨p0,q0,u0,r0⟩:=aC3 a0 h0;obtain ⟨p1,q1,u1,r1⟩:=aC3 a1 h1;obtain ⟨p2,q2,u2,r2⟩:=aC3 a2 h2;obtain ⟨p3,q3,u3,r3⟩:=aC3 a3 h3;obtain ⟨p4,q4,u4,r4⟩:=aC3 a4 h4;obtain ⟨p5,q5,u5,r5⟩:=aC3 a5 h5;obtain ⟨p6,q6,u6,r6⟩:=aC3 a6 h6;obtain ⟨p7,q7,u7,r7⟩:=aC3 a7 h7;have e1:(cM a0 a1 a2 a3 a4 a5 a6 a7 >>> 1&&& 6148914691236517205)+(cM a0 a1 a2 a3 a4 a5 a6 a7&&& 6148914691236517205)=cM (b1 a0) (b1 a1) (b1 a2) (b1 a3) (b1 a4) (b1 a5) (b1 a6) (b1 a7):=by rw [m1,qK _ _ _ _ _ _ _ _ 1 85 h0 h1 h2 h3 h4 h5 h6 h7 oM dC,tR _ _ _ _ _ _ _ _ 85 h0 h1 h2 h3 h4 h5 h6 h7 oM,jZ];rfl
 have e2:(cM (b1 a0) (b1 a1) (b1 a2) (b1 a3) (b1 a4) (b1 a5) (b1 a6) (b1 a7)>>> 2&&& 3689348814741910323)+(cM (b1 a0) (b1 a1) (b1 a2) (b1 a3) (b1 a4) (b1 a5) (b1 a6) (b1 a7)&&& 3689348814741910323)=cM (b2 (b1 a0)) (b2 (b1 a1)) (b2 (b1 a2)) (b2 (b1 a3)) (b2 (b1 a4)) (b2 (b1 a5)) (b2 (b1 a6)) (b2 (b1 a7)):=by rw [m2,qK _ _ _ _ _ _ _ _ 2 51 p0 p1 p2 p3 p4 p5 p6 p7 oM dC,tR _ _ _ _ _ _ _ _ 51 p0 p1 p2 p3 p4 p5 p6 p7 oM,jZ];rfl
 have e3:∀c0 c1 c2 c3 c4 c5 c6 c7:Nat,c0 / 16<=4->c0 % 16<=4->c1 / 16<=4->c1 % 16<=4->c2 / 16<=4->c2 % 16<=4->c3 / 16<=4->c3 % 16<=4->c4 / 16<=4->c4 % 16<=4->c5 / 16<=4->c5 % 16<=4->c6 / 16<=4->c6 % 16<=4->c7 / 16<=4->c7 % 16<=4->
  (cM c0 c1 c2 c3 c4 c5 c6 c7 >>> 4+cM c0 c1 c2 c3 c4 c5 c6 c7)&&& 1085102592571150095=cM (c0 % 16+c0 / 16) (c1 % 16+c1 / 16) (c2 % 16+c2 / 16) (c3 % 16+c3 / 16) (c4 % 16+c4 / 16) (c5 % 16+c5 / 16) (c6 % 16+c6 / 16) (c7 % 16+c7 / 16):=by
  intro c0 c1 c2 c3 c4 c5 c6 c7 x0 y0 x1 y1 x2 y2 x3 y3 x4 y4 x5 y5 x6 y6 x7 y7;have d:cM c0 c1 c2 c3 c4 c5 c6 c7 >>> 4=cM (c0 / 16+16*(c1 % 16)) (c1 / 16+16*(c2 % 16)) (c2 / 16+16*(c3 % 16)) (c3 / 16+16*(c4 % 16)) (c4 / 16+16*(c5 % 16)) (c5 / 16+16*(c6 % 16)) (c6 / 16+16*(c7 % 16)) (c7 / 16):=by rw [Nat.shiftRight_eq_div_pow];unfold cM;omega
  have m15:∀z:Nat,z&&& 15=z % 16:=fun z=>Nat.and_two_pow_sub_one_eq_mod z 4;rw [d,jZ,m3,tR _ _ _ _ _ _ _ _ 15 oM oM oM oM oM oM oM oM oM];simp only [m15];congr 1 <;> omega
 unfold aCi;simp only;rw [e1,e2,e3 _ _ _ _ _ _ _ _ q0 u0 q1 u1 q2 u2 q3 u3 q4 u4 q5 u5 q6 u6 q7 u7,r0,r1,r2,r3,r4,r5,r6,r7]
theorem aHL (p0 p1 p2 p3 p4 p5 p6 p7:Nat) (h0:p0<=8) (h1:p1<=8) (h2:p2<=8) (h3:p3<=8) (h4:p4<=8) (h5:p5<=8) (h6:p6<=8) (h7:p7<=8) (x y z:Nat) (hx:x=cM p0 p1 p2 p3 p4 p5 p6 p7+cM p0 p1 p2 p3 p4 p5 p6 p7 / 256) (hy:y=x+x / 65536) (hz:z=y+y / 4294967296):
 z % 128=p0+p1+p2+p3+p4+p5+p6+p7/\z < 18446744073709551616:=by
 have d1:cM p0 p1 p2 p3 p4 p5 p6 p7 / 256=cM p1 p2 p3 p4 p5 p6 p7 0:=by unfold cM;omega
 rw [d1,jZ] at hx;have d2:x / 65536=cM (p2+p3) (p3+p4) (p4+p5) (p5+p6) (p6+p7) (p7+0) 0 0:=by rw [hx];unfold cM;omega
 rw [d2,hx,jZ] at hy;have d3:y / 4294967296=cM (p4+p5+(p6+p7)) (p5+p6+(p7+0)) (p6+p7+0) (p7+0+0) 0 0 0 0:=by rw [hy];unfold cM;omega
 rw [d3,hy,jZ] at hz;unfold cM at hz;omega
theorem aEp (x:Nat):bJ x 64=bJ (x % 256) 8+bJ (x / 256 % 256) 8+bJ (x / 65536 % 256) 8+bJ (x / 16777216 % 256) 8+bJ (x / 4294967296 % 256) 8+bJ (x / 1099511627776 % 256) 8+bJ (x / 281474976710656 % 256) 8+bJ (x / 72057594037927936 % 256) 8:=by
 have m:=fun y=>aCI y 8;simp only [show (2:Nat)^ 8=256 by decide] at m;simp only [m];rw [show (64:Nat)=8+(8+(8+(8+(8+(8+(8+8)))))) by decide];simp only [aCJ];simp only [Nat.shiftRight_eq_div_pow,Nat.div_div_eq_div_mul,show (2:Nat)^ 8=256 by decide,Nat.reduceMul];omega
theorem aLn (x:Nat) (h:x < 18446744073709551616) (a b c:Nat) (ha:a=aCi x+aCi x / 256) (hb:b=a+a / 65536) (hc:c=b+b / 4294967296):c % 128=bJ x 64/\c < 18446744073709551616:=by
 have e:=aIO x h;have s:=aDX (x % 256) (x / 256 % 256) (x / 65536 % 256) (x / 16777216 % 256) (x / 4294967296 % 256) (x / 1099511627776 % 256) (x / 281474976710656 % 256) (x / 72057594037927936 % 256) oM oM oM oM oM oM oM oM;rw [<-e] at s;rw [s] at ha;have l:=fun y=>oQ y 8;rw [aEp x];exact aHL _ _ _ _ _ _ _ _ (l _) (l _) (l _) (l _) (l _) (l _) (l _) (l _) a b c ha hb hc
end
section
open Go.RowKit Go
section
variable {P : Program} {ops : Array Oper} {Q : Exit -> Act -> World -> Prop} {md : Region.Mode}
def rH (md:Region.Mode) (ops:Array Oper) (j t:Nat):Bool:=
 (List.range ops.size).all fun k=>match ops[k]? with
    | some p=>p.dst != some t||k==j||p.after.toList.any (fun e=>Region.binds md e&&e.on==j)
    | none=>true
def jB (md:Region.Mode) (ops:Array Oper) (n:Nat):Bool:=
 (List.range ops.size).all fun k=>match ops[k]? with
    | some p=>p.after.toList.all (fun e=> !Region.binds md e||decide (e.on < k))&&
     (match p.dst with | some d=>decide (d < n)&&(List.range ops.size).all (fun j=>j==k||((ops[j]?).bind (·.dst))!= some d)| none=>true)
    | none=>true
theorem dW {n:Nat} (h:jB md ops n=true) {k:Nat} {p:Oper} (hp:ops[k]?=some p):
 (∀e∈p.after,Region.binds md e=true->e.on < k)/\∀d,p.dst=some d->d < n/\∀j q,ops[j]?=some q->q.dst=some d->j=k:=by
 have hk:k < ops.size:=(zAh.1 hp).1;have h1:=zBf.1 h k (zCj.2 hk);simp only [hp,zBd] at h1;refine ⟨fun e he hb=>?_,fun d hd=>?_⟩;have:=zBf.1 h1.1 e (Array.mem_toList_iff.2 he);simpa [hb] using this;have h2:=h1.2;simp only [hd,zBd,zCa] at h2;refine ⟨h2.1,fun j q hq hqd=>?_⟩;have hj:j < ops.size:=(zAh.1 hq).1;have:=zBf.1 h2.2 j (zCj.2 hj);simp only [hq,Option.bind_some,hqd,Bool.or_eq_true,zCq,bne_self_eq_false,Bool.false_eq_true,or_false] at this;exact this
theorem vT {j t:Nat} (h:rH md ops j t=true) {k:Nat} {p:Oper} (hp:ops[k]?=some p) (hd:p.dst=some t):
 k=j∨∃e∈p.after,Region.binds md e=true/\e.on=j:=by
 have hk:k < ops.size:=(zAh.1 hp).1;have h1:=zBf.1 h k (zCj.2 hk);simp only [hp,hd,Bool.or_eq_true,zCq,bne_self_eq_false,Bool.false_eq_true,false_or] at h1;rcases h1 with h1 | h1;exact .inl h1;obtain ⟨e,he,h2⟩:=List.any_eq_true.1 h1;simp only [zBd,zCq] at h2;exact .inr ⟨e,Array.mem_toList_iff.1 he,h2.1,h2.2⟩
structure Loose (md:Region.Mode) (ops:Array Oper) (S:World->World->Prop) (V:Nat->Value->World->Prop) (a0:Act) (W0:World) (listed:Array Bool) (a:Act) (w:World):Prop where
 world:S W0 w
 size:a.tmps.size=a0.tmps.size
 defers:a.defers=a0.defers
 old:∀t,(∀k p,ops[k]?=some p->p.dst=some t->listed.getD k false=false)->a.tmps.getD t undef=a0.tmps.getD t undef
 val:∀i o d,ops[i]?=some o->listed.getD i false=true->o.dst=some d->V i (a.tmps.getD d undef) w
 shut:∀k p,ops[k]?=some p->listed.getD k false=true->∀e∈p.after,Region.binds md e=true->listed.getD e.on false=true
theorem bO (l:Array Bool) (i:Nat) (h:i < l.size) (d:Bool):(l.setIfInBounds i true).getD i d=true:=by simp [h]
theorem eP (l:Array Bool) (i k:Nat) (h:(l.setIfInBounds i true).getD k false=true):k=i∨l.getD k false=true:=by
 by_cases hk:i=k;exact .inl hk.symm;rw [getD_set_ne false hk] at h;exact .inr h
def fX (P:Program) (ops:Array Oper) (Q:Exit->Act->World->Prop) (md:Region.Mode) (S:World->World->Prop) (V:Nat->Value->World->Prop) (a0:Act) (W0:World) (j:Nat) (o:Oper):Prop:=
 ∀a w,S W0 w->a.tmps.size=a0.tmps.size->a.defers=a0.defers->
    (∀t,rH md ops j t=true->a.tmps.getD t undef=a0.tmps.getD t undef)->
    (∀e∈o.after,Region.binds md e=true->∀p d,ops[e.on]?=some p->p.dst=some d->V e.on (a.tmps.getD d undef) w)->
    ∀K:Act->World->Prop,(∀v w',S w w'->V j v w'->K (a.put o.dst v) w')->wpOp P ops Q j K a w
theorem vL {S:World->World->Prop} {V:Nat->Value->World->Prop} {a0:Act} {W0:World} {j:Nat} {o:Oper} (ho:ops[j]?=some o) (hg:o.guard=none)
 (h:∀ev:Operand->Value,∀w,S W0 w->(∀v,ev (.const v)=v)->(∀f,ev (.func f)=.func (.func f) #[] #[])->(∀t,rH md ops j t=true->ev (.tmp t)=a0.eval (.tmp t))->
  (∀i d,o.after.toList.any (fun e=>Region.binds md e&&e.on==i)=true->((ops[i]?).bind (·.dst))=some d->V i (ev (.tmp d)) w)->
  ∀a K,a.eval=ev->(∀v w',S w w'->V j v w'->K (a.put o.dst v) w')->Oper.upon P o a K Q ((execOp ev o).run P w)):fX P ops Q md S V a0 W0 j o:=by
 intro a w hS hsz hdf hold hval K hK;unfold wpOp;simp only [ho];have hw:Region.wanted o (yielded ops a.tmps)=true:=by unfold Region.wanted;rw [hg]
 rw [zBx hw];refine .inl (h a.eval w hS (fun _=>rfl) (fun _=>rfl) (fun t ht=>hold t ht) (fun i d hi hd=>?_) a K rfl hK);obtain ⟨e,he,h2⟩:=List.any_eq_true.1 hi;simp only [zBd,zCq] at h2;obtain ⟨h3,rfl⟩:=h2;cases hp:ops[e.on]? with
 | none=>rw [hp] at hd;cases hd
 | some p=>rw [hp] at hd;exact hval e (Array.mem_toList_iff.1 he) h3 p d hp hd
theorem aC {T:Nat->Oper->Prop} {k:Nat}:∀j p,([]:List Oper)[j]?=some p->T (k+j) p:=by intro j p h;simp at h
theorem aD {T:Nat->Oper->Prop} {k:Nat} {o:Oper} {l:List Oper} (h:T k o) (hl:∀j p,l[j]?=some p->T (k+1+j) p):∀j p,(o::l)[j]?=some p->T (k+j) p:=by
 intro j p hj;cases j with
 | zero=>simp at hj;subst hj;exact h
 | succ j=>simp at hj;have:=hl j p hj;rwa [show k+1+j=k+(j+1) by omega] at this
theorem sC {P:Program} {ops:Array Oper} {Q:Exit->Act->World->Prop} {md:Region.Mode} {S:World->World->Prop} {V:Nat->Value->World->Prop} {a0:Act} {W0:World} {k:Nat} {o:Oper} {l:List Oper} (h:∀ev:Operand->Value,∀w,S W0 w->(∀v,ev (.const v)=v)->(∀f,ev (.func f)=.func (.func f) #[] #[])->(∀t,rH md ops k t=true->ev (.tmp t)=a0.eval (.tmp t))->(∀i d,o.after.toList.any (fun e=>Region.binds md e&&e.on==i)=true->((ops[i]?).bind (·.dst))=some d->V i (ev (.tmp d)) w)->∀a K,a.eval=ev->(∀v w',S w w'->V k v w'->K (a.put o.dst v) w')->Oper.upon P o a K Q ((execOp ev o).run P w)) (hl:∀j p,l[j]?=some p->fX P ops Q md S V a0 W0 (k+1+j) p) (ho:ops[k]?=some o:=by rfl) (hg:o.guard=none:=by rfl):∀j p,(o::l)[j]?=some p->fX P ops Q md S V a0 W0 (k+j) p:=aD (vL ho hg h) hl
theorem pW {P:Program} {ops:Array Oper} {Q:Exit->Act->World->Prop} {md:Region.Mode} {S:World->World->Prop} {V:Nat->Value->World->Prop} {a0:Act} {W0:World} {k:Nat} {o:Oper} {l:List Oper} (i d j c:Nat) (hl:∀j p,l[j]?=some p->fX P ops Q md S V a0 W0 (k+1+j) p) (ho:ops[k]?=some o:=by rfl) (hg:o.guard=none:=by rfl) (hb:o.after.toList.any (fun e=>Region.binds md e&&e.on==i)=true:=by kernel_rfl) (hd:((ops[i]?).bind (·.dst))=some d:=by rfl) (hb2:o.after.toList.any (fun e=>Region.binds md e&&e.on==j)=true:=by kernel_rfl) (hd2:((ops[j]?).bind (·.dst))=some c:=by rfl) (h:∀(ev:Operand->Value) (w:World),(∀v,ev (.const v)=v)->(∀f,ev (.func f)=.func (.func f) #[] #[])->V i (ev (.tmp d)) w->V j (ev (.tmp c)) w->∀(a:Act) (K:Act->World->Prop),a.eval=ev->(∀v w',S w w'->V k v w'->K (a.put o.dst v) w')->Oper.upon P o a K Q ((execOp ev o).run P w):=by (intro ev w hc hf e0 f0 a K ha hK;have e:_=_:=e0;have f:_=_:=f0;go_simp;first|exact kq hK rfl|exact hK _ _ (VisK.refl _ _) rfl|exact hK _ _ (Below.refl _ _) rfl|exact hK _ _ (aK (VisK.refl _ _)) rfl)):∀j p,(o::l)[j]?=some p->fX P ops Q md S V a0 W0 (k+j) p:=aD (vL ho hg fun ev w _ hc hf hold hval a K ha hK=>h ev w hc hf (hval i d hb hd) (hval j c hb2 hd2) a K ha hK) hl
theorem pV {P:Program} {ops:Array Oper} {Q:Exit->Act->World->Prop} {md:Region.Mode} {S:World->World->Prop} {V:Nat->Value->World->Prop} {a0:Act} {W0:World} {k:Nat} {o:Oper} {l:List Oper} (i d:Nat) (hl:∀j p,l[j]?=some p->fX P ops Q md S V a0 W0 (k+1+j) p) (ho:ops[k]?=some o:=by rfl) (hg:o.guard=none:=by rfl) (hb:o.after.toList.any (fun e=>Region.binds md e&&e.on==i)=true:=by kernel_rfl) (hd:((ops[i]?).bind (·.dst))=some d:=by rfl) (h:∀(ev:Operand->Value) (w:World),(∀v,ev (.const v)=v)->(∀f,ev (.func f)=.func (.func f) #[] #[])->V i (ev (.tmp d)) w->∀(a:Act) (K:Act->World->Prop),a.eval=ev->(∀v w',S w w'->V k v w'->K (a.put o.dst v) w')->Oper.upon P o a K Q ((execOp ev o).run P w):=by (intro ev w hc hf e0 a K ha hK;have e:_=_:=e0;go_simp;first|exact kq hK rfl|exact hK _ _ (VisK.refl _ _) rfl|exact hK _ _ (Below.refl _ _) rfl|exact hK _ _ (aK (VisK.refl _ _)) rfl)):∀j p,(o::l)[j]?=some p->fX P ops Q md S V a0 W0 (k+j) p:=aD (vL ho hg fun ev w _ hc hf hold hval a K ha hK=>h ev w hc hf (hval i d hb hd) a K ha hK) hl
theorem pH {P:Program} {ops:Array Oper} {Q:Exit->Act->World->Prop} {md:Region.Mode} {S:World->World->Prop} {V:Nat->Value->World->Prop} {a0:Act} {W0:World} {k:Nat} {o:Oper} {l:List Oper} (t:Nat) (x:Value) (hl:∀j p,l[j]?=some p->fX P ops Q md S V a0 W0 (k+1+j) p) (ho:ops[k]?=some o:=by rfl) (hg:o.guard=none:=by rfl) (hb:rH md ops k t=true:=by kernel_rfl) (hx:a0.eval (.tmp t)=x:=by rfl) (h:∀(ev:Operand->Value) (w:World),(∀v,ev (.const v)=v)->(∀f,ev (.func f)=.func (.func f) #[] #[])->ev (.tmp t)=x->∀(a:Act) (K:Act->World->Prop),a.eval=ev->(∀v w',S w w'->V k v w'->K (a.put o.dst v) w')->Oper.upon P o a K Q ((execOp ev o).run P w):=by (intro ev w hc hf e a K ha hK;go_simp;first|exact kq hK rfl|exact hK _ _ (VisK.refl _ _) rfl|exact hK _ _ (Below.refl _ _) rfl|exact hK _ _ (aK (VisK.refl _ _)) rfl)):∀j p,(o::l)[j]?=some p->fX P ops Q md S V a0 W0 (k+j) p:=aD (vL ho hg fun ev w _ hc hf hold hval a K ha hK=>h ev w hc hf ((hold t hb).trans hx) a K ha hK) hl
theorem aM {T:Nat->Oper->Prop} {l:List Oper} (h:∀j p,l[j]?=some p->T (0+j) p):∀j p,l.toArray[j]?=some p->T j p:=by
 intro j p hj;have:=h j p (by simpa using hj);rwa [zBi] at this
def is (c:Value):Value->World->Prop:=fun v _=>v=c
def row (sz n:Nat) (xs:List Value):Value->World->Prop:=fun v w=>∃A c,v=.slice A n c/\Rd w w.heap.size sz A n xs/\n<=c/\c<=maxLen
def Grow (w w':World):Prop:=Below w.heap.size w w'
theorem Grow.trans {w w1 w2:World} (h:Grow w w1) (k:Grow w1 w2):Grow w w2:=Below.trans h (Below.mono k (Below.size h))
def Stb (p:Value->World->Prop):Prop:=∀v w w',p v w->Grow w w'->p v w'
theorem aKA (c:Value):Stb (is c):=fun _ _ _ h _=>h
theorem aJu (sz n:Nat) (xs:List Value):Stb (row sz n xs):=fun _ _ _ ⟨A,c,h1,h2,h3⟩ hb=>⟨A,c,h1,(h2.below hb).mono (Below.size hb),h3⟩
def Vs (l:List (Value->World->Prop)) (i:Nat):Value->World->Prop:=l.getD i fun _ _=>True
theorem eU {l:List (Value->World->Prop)} (h:∀p∈l,Stb p):∀i v w w',Vs l i v w->Grow w w'->Vs l i v w':=by
 intro i v w w' h1 h2;unfold Vs at*
 rw [zAb] at*
 cases hp:l[i]? with
 | none=>exact trivial
 | some p=>rw [hp] at h1;exact h p (zAd hp) _ _ _ h1 h2
theorem aCd (S:World->World->Prop) (V:Nat->Value->World->Prop) (a0:Act) (W0:World)
 (hlaid:jB md ops a0.tmps.size=true) (hrefl:S W0 W0) (htrans:∀w w',S W0 w->S w w'->S W0 w') (hstab:∀i v w w',V i v w->S w w'->V i v w')
 (hstep:∀j o,ops[j]?=some o->fX P ops Q md S V a0 W0 j o)
 (hend:∀a w,S W0 w->a.tmps.size=a0.tmps.size->a.defers=a0.defers->
  (∀t,(∀(k:Nat) (p:Oper),ops[k]?=some p->p.dst≠some t)->a.tmps.getD t undef=a0.tmps.getD t undef)->
  (∀i o d,ops[i]?=some o->o.dst=some d->V i (a.tmps.getD d undef) w)->Q .normal a w):
 wpAny P md ops Q ops.size (Array.replicate ops.size false) a0 W0:=by
 have done:∀listed a w,listed.size=ops.size->(∀i,i < ops.size->listed.getD i false=true)->Loose md ops S V a0 W0 listed a w->Q .normal a w:=by intro listed a w hl hall h;refine hend a w h.world h.size h.defers (fun t ht=>h.old t fun k p hp hd=>absurd hd (ht k p hp)) fun i o d ho hd=>h.val i o d ho (hall i (zAh.1 ho).1) hd
 have none_ready:∀listed:Array Bool,listed.size=ops.size->Region.ready md ops listed= []->∀i,i < ops.size->listed.getD i false=true:=by
  intro listed hl hr i
  induction i using Nat.strongRecOn with
  | _ i ih=>
    intro hi;cases hc:listed.getD i false with
    | true=>rfl
    | false=>
      exfalso;have hm:i∈Region.ready md ops listed:=(by refine mem_ready.2 ⟨?_,ops[i],zAq hi,fun e he hb=>?_⟩;have hi':i < listed.size:=oM;simp [hi'] at hc⊢;exact hc;have:=(dW hlaid (zAq hi)).1 e he hb;exact ih e.on this oM);rw [hr] at hm;cases hm
 have main:∀fuel listed a w,listed.size=ops.size->listed.toList.count false<=fuel->Loose md ops S V a0 W0 listed a w->wpAny P md ops Q fuel listed a w:=by
  intro fuel
  induction fuel with
  | zero=>
    intro listed a w hl hc h
    have hall:∀i,i < ops.size->listed.getD i false=true:=by
        intro i hi;have hi':i < listed.size:=oM;cases hv:listed.getD i false with
        | true=>rfl
        | false=>
          exfalso;have:false∈listed.toList:=(by simp [hi'] at hv;exact hv ▸(by simp));have:=List.count_pos_iff.2 this;omega
    refine ⟨?_,done listed a w hl hall h⟩;cases hr:Region.ready md ops listed with
    | nil=>rfl
    | cons i l=>
      exfalso;have hi:i∈Region.ready md ops listed:=(by rw [hr];exact List.mem_cons_self ..);obtain ⟨h0,o,ho,_⟩:=mem_ready.1 hi;have hlt:i < ops.size:=(zAh.1 ho).1;have h1:=hall i hlt;have hi':i < listed.size:=oM;simp [hi'] at h0 h1;rw [h0] at h1;cases h1
  | succ fuel ih=>
    intro listed a w hl hc h;refine ⟨fun hr=>done listed a w hl (none_ready listed hl hr) h,fun j hj=>?_⟩;obtain ⟨h0,o,ho,haft⟩:=mem_ready.1 hj;have hlt:j < ops.size:=(zAh.1 ho).1;have hjl:j < listed.size:=oM;have h0':listed.getD j false=false:=(by simp [hjl] at h0⊢;exact h0);refine hstep j o ho a w h.world h.size h.defers (fun t ht=>h.old t fun k p hp hd=>?_) (fun e he hb p d hp hd=>h.val e.on p d hp (haft e he hb) hd) _ fun v w' hS hV=>?_
    · rcases vT ht hp hd with rfl |⟨e,he,hb,heq⟩;exact h0'
      · cases hk:listed.getD k false with
        | false=>rfl
        | true=>
          have:=h.shut k p hp hk e he hb;rw [heq,h0'] at this;cases this
    · refine ih _ _ _ (by simpa using hl) ?_ ?_;have hv:listed.toList[j]'(by simpa using hjl)=false:=(by simp [hjl] at h0'⊢;exact h0');rw [Array.toList_setIfInBounds,List.count_set (by simpa using hjl),hv];simp;have hm:false∈listed.toList:=hv ▸ zBj _;have:=List.count_pos_iff.2 hm;rw [<-Array.count_toList];omega
      · have hsz:(a.put o.dst v).tmps.size=a0.tmps.size:=by
          rw [<-h.size];cases o.dst with
          | none=>rfl
          | some d=>simp [Act.put]
        refine ⟨htrans w w' h.world hS,hsz,?_,fun t ht=>?_,fun i p d hp hi hd=>?_,fun k p hp hk e he hb=>?_⟩
        · rw [<-h.defers];cases o.dst <;> rfl
        · have hne:o.dst≠some t:=fun hd=>by have:=ht j o ho hd;rw [bO _ _ hjl] at this;cases this
          have hold:=h.old t fun k p hp hd=>by
           have:=ht k p hp hd;cases hk:listed.getD k false with
           | false=>rfl
           | true=>
             by_cases hjk:j=k
             · subst hjk;rw [h0'] at hk;cases hk
             · rw [getD_set_ne false hjk,hk] at this;cases this
          rw [<-hold];cases hod:o.dst with
          | none=>rfl
          | some d=>
            have hdt:d≠t:=fun h=>hne (by rw [hod,h]);simp [Act.put,zAm,hdt]
        · rcases eP _ _ _ hi with rfl | hi1;rw [ho] at hp;injection hp with hp;subst hp;have hdl:=((dW hlaid ho).2 d hd).1;have:(a.put o.dst v).tmps.getD d undef=v:=(by rw [hd];have:d < a.tmps.size:=(by rw [h.size];exact hdl);simp [Act.put,zAm,this]);rw [this];exact hV
          · by_cases hij:i=j
            · subst hij;rw [h0'] at hi1;cases hi1
            have:(a.put o.dst v).tmps.getD d undef=a.tmps.getD d undef:=by
              cases hod:o.dst with
              | none=>rfl
              | some d'=>
                have hdt:d'≠d:=fun h=>hij (((dW hlaid ho).2 d' hod).2 i p hp (h ▸ hd));simp [Act.put,zAm,hdt]
            rw [this];exact hstab _ _ _ _ (h.val i p d hp hi1 hd) hS
        rcases eP _ _ _ hk with rfl | hk;rw [ho] at hp;injection hp with hp;subst hp;have h1:=haft e he hb;by_cases hje:k=e.on;rw [<-hje];exact bO _ _ hjl _;rw [getD_set_ne false hje];exact h1;have h1:=h.shut k p hp hk e he hb;by_cases hje:j=e.on;rw [<-hje];exact bO _ _ hjl _;rw [getD_set_ne false hje];exact h1
 refine main _ _ _ _ (by simp) (by simp) ⟨hrefl,rfl,rfl,fun _ _=>rfl,fun i o d ho hi hd=>?_,fun k p hp hk=>?_⟩
 · have hlt:i < ops.size:=(zAh.1 ho).1;simp [hlt] at hi
 · have hlt:k < ops.size:=(zAh.1 hp).1;simp [hlt] at hk
end
def aI (ev:Operand->Value) (ds:List Nat) (a0:Act):Act:=ds.foldl (fun x d=>x.put (some d) (ev (.tmp d))) a0
theorem aJI (a:Act) (ds:List Nat) (a0:Act) (hsz:a.tmps.size=a0.tmps.size):
 (aI a.eval ds a0).tmps.size=a0.tmps.size/\(aI a.eval ds a0).defers=a0.defers/\
 ∀t,(aI a.eval ds a0).tmps.getD t undef=if t∈ds then a.tmps.getD t undef else a0.tmps.getD t undef:=by
 induction ds generalizing a0 with
 | nil=>exact ⟨rfl,rfl,fun t=>by simp [aI]⟩
 | cons d ds ih=>
   have h1:(a0.put (some d) (a.eval (.tmp d))).tmps.size=a0.tmps.size:=(by simp [Act.put]);obtain ⟨i1,i2,i3⟩:=ih (a0.put (some d) (a.eval (.tmp d))) (by rw [h1];exact hsz);refine ⟨i1.trans h1,i2,fun t=>?_⟩;have h2:=i3 t;change (aI a.eval ds (a0.put (some d) (a.eval (.tmp d)))).tmps.getD t undef=_;rw [h2];by_cases ht:t∈ds
   · rw [zBx ht,zBx (List.mem_cons_of_mem _ ht)]
   · rw [zBw ht];by_cases htd:t=d
     · subst htd;rw [zBx (List.mem_cons_self ..)];by_cases hlt:t < a0.tmps.size
       · simp [Act.put,zAm,hlt,Act.eval]
       · have hlt2:¬t < a.tmps.size:=oM;simp [Act.put,zAm,hlt,hlt2]
     · rw [zBw (by simp [htd,ht])];have:d≠t:=fun h=>htd h.symm;simp [Act.put,zAm,this]
theorem oB (a a0:Act) (ds:List Nat) (hsz:a.tmps.size=a0.tmps.size) (hdf:a.defers=a0.defers) (h:∀t,t∉ds->a.tmps.getD t undef=a0.tmps.getD t undef):a=aI a.eval ds a0:=by
 obtain ⟨i1,i2,i3⟩:=aJI a ds a0 hsz;have key:a.tmps=(aI a.eval ds a0).tmps:=by
  apply Array.ext
  · rw [i1,hsz]
  · intro i h1 h2;have:=i3 i;have e1:(aI a.eval ds a0).tmps.getD i undef=(aI a.eval ds a0).tmps[i]:=(by simp [zAm,h2]);have e2:a.tmps.getD i undef=a.tmps[i]:=(by simp [zAm,h1]);rw [e1] at this;rw [this];by_cases hi:i∈ds
    · rw [zBx hi,e2]
    · rw [zBw hi,<-h i hi,e2]
 cases ha:a with
 | mk t d=>
   cases hp:aI a.eval ds a0 with
   | mk t' d'=>
     rw [ha] at hp;rw [hp];rw [ha,hp] at key;rw [ha,hp] at i2;rw [ha] at hdf;simp only at key i2 hdf;rw [key,hdf,i2]
section
variable {P : Program} {ops : Array Oper} {Q : Exit -> Act -> World -> Prop} {md : Region.Mode}
theorem aO (ds:List Nat) (S:World->World->Prop) (V:Nat->Value->World->Prop) (a0:Act) (W0:World)
 (hds:ops.toList.filterMap (·.dst)=ds)
 (hlaid:jB md ops a0.tmps.size=true) (hrefl:S W0 W0) (htrans:∀w w',S W0 w->S w w'->S W0 w') (hstab:∀i v w w',V i v w->S w w'->V i v w')
 (hstep:∀j o,ops[j]?=some o->fX P ops Q md S V a0 W0 j o)
 (hend:∀(ev:Operand->Value) w,S W0 w->(∀i d,((ops[i]?).bind (·.dst))=some d->V i (ev (.tmp d)) w)->Q .normal (aI ev ds a0) w):
 wpAny P md ops Q ops.size (Array.replicate ops.size false) a0 W0:=by
 refine aCd S V a0 W0 hlaid hrefl htrans hstab hstep fun a w hS hsz hdf hold hval=>?_;have h1:=hend a.eval w hS fun i d hd=>by
  cases ho:ops[i]? with
  | none=>rw [ho] at hd;cases hd
  | some o=>rw [ho] at hd;exact hval i o d ho hd
 rw [<-oB a a0 ds hsz hdf fun t ht=>hold t fun k p hp hd=>ht ?_] at h1;exact h1;rw [<-hds];exact List.mem_filterMap.2 ⟨p,Array.mem_toList_iff.2 (Array.mem_of_getElem? hp),hd⟩
end
section
variable {P : Program} {ops : Array Oper} {Q : Exit -> Act -> World -> Prop} {md : Region.Mode}
def vB (md:Region.Mode) (ops:Array Oper) (i j:Nat):Bool:=match ops[i]? with
 | some o=>o.after.toList.any (fun e=>Region.binds md e&&e.on==j)
 | none=>false
def dH (P:Program) (ops:Array Oper) (Q:Exit->Act->World->Prop) (md:Region.Mode) (C:World->Prop) (S:Nat->World->World->Prop) (U:Nat->World->Prop) (V:Nat->Value->World->Prop) (a0:Act) (j:Nat) (o:Oper):Prop:=
 ∀a w,C w->U j w->a.tmps.size=a0.tmps.size->a.defers=a0.defers->
    (∀t,rH md ops j t=true->a.tmps.getD t undef=a0.tmps.getD t undef)->
    (∀e∈o.after,Region.binds md e=true->∀p d,ops[e.on]?=some p->p.dst=some d->V e.on (a.tmps.getD d undef) w)->
    ∀K:Act->World->Prop,(∀v w',S j w w'->V j v w'->K (a.put o.dst v) w')->wpOp P ops Q j K a w
theorem eG {C:World->Prop} {S:Nat->World->World->Prop} {U:Nat->World->Prop} {V:Nat->Value->World->Prop} {a0:Act} {j:Nat} {o:Oper} (ho:ops[j]?=some o) (hg:o.guard=none)
 (h:∀ev:Operand->Value,∀w,C w->U j w->(∀v,ev (.const v)=v)->(∀f,ev (.func f)=.func (.func f) #[] #[])->(∀t,rH md ops j t=true->ev (.tmp t)=a0.eval (.tmp t))->
  (∀i d,o.after.toList.any (fun e=>Region.binds md e&&e.on==i)=true->((ops[i]?).bind (·.dst))=some d->V i (ev (.tmp d)) w)->
  ∀a K,a.eval=ev->(∀v w',S j w w'->V j v w'->K (a.put o.dst v) w')->Oper.upon P o a K Q ((execOp ev o).run P w)):dH P ops Q md C S U V a0 j o:=by
 intro a w hS hU hsz hdf hold hval K hK;unfold wpOp;simp only [ho];have hw:Region.wanted o (yielded ops a.tmps)=true:=by unfold Region.wanted;rw [hg]
 rw [zBx hw];refine .inl (h a.eval w hS hU (fun _=>rfl) (fun _=>rfl) (fun t ht=>hold t ht) (fun i d hi hd=>?_) a K rfl hK);obtain ⟨e,he,h2⟩:=List.any_eq_true.1 hi;simp only [zBd,zCq] at h2;obtain ⟨h3,rfl⟩:=h2;cases hp:ops[e.on]? with
 | none=>rw [hp] at hd;cases hd
 | some p=>rw [hp] at hd;exact hval e (Array.mem_toList_iff.1 he) h3 p d hp hd
theorem sC3 {P:Program} {ops:Array Oper} {Q:Exit->Act->World->Prop} {md:Region.Mode} {C:World->Prop} {S:Nat->World->World->Prop} {U:Nat->World->Prop} {V:Nat->Value->World->Prop} {a0:Act} {k:Nat} {o:Oper} {l:List Oper} (h:∀ev:Operand->Value,∀w,C w->U k w->(∀v,ev (.const v)=v)->(∀f,ev (.func f)=.func (.func f) #[] #[])->(∀t,rH md ops k t=true->ev (.tmp t)=a0.eval (.tmp t))->(∀i d,o.after.toList.any (fun e=>Region.binds md e&&e.on==i)=true->((ops[i]?).bind (·.dst))=some d->V i (ev (.tmp d)) w)->∀a K,a.eval=ev->(∀v w',S k w w'->V k v w'->K (a.put o.dst v) w')->Oper.upon P o a K Q ((execOp ev o).run P w)) (hl:∀j p,l[j]?=some p->dH P ops Q md C S U V a0 (k+1+j) p) (ho:ops[k]?=some o:=by rfl) (hg:o.guard=none:=by rfl):∀j p,(o::l)[j]?=some p->dH P ops Q md C S U V a0 (k+j) p:=aD (eG ho hg h) hl
theorem pW3 {P:Program} {ops:Array Oper} {Q:Exit->Act->World->Prop} {md:Region.Mode} {C:World->Prop} {S:Nat->World->World->Prop} {U:Nat->World->Prop} {V:Nat->Value->World->Prop} {a0:Act} {k:Nat} {o:Oper} {l:List Oper} (i d j c:Nat) (hl:∀j p,l[j]?=some p->dH P ops Q md C S U V a0 (k+1+j) p) (ho:ops[k]?=some o:=by rfl) (hg:o.guard=none:=by rfl) (hb:o.after.toList.any (fun e=>Region.binds md e&&e.on==i)=true:=by kernel_rfl) (hd:((ops[i]?).bind (·.dst))=some d:=by rfl) (hb2:o.after.toList.any (fun e=>Region.binds md e&&e.on==j)=true:=by kernel_rfl) (hd2:((ops[j]?).bind (·.dst))=some c:=by rfl) (h:∀(ev:Operand->Value) (w:World),(∀v,ev (.const v)=v)->(∀f,ev (.func f)=.func (.func f) #[] #[])->V i (ev (.tmp d)) w->V j (ev (.tmp c)) w->∀(a:Act) (K:Act->World->Prop),a.eval=ev->(∀v w',S k w w'->V k v w'->K (a.put o.dst v) w')->Oper.upon P o a K Q ((execOp ev o).run P w):=by (intro ev w hc hf e0 f0 a K ha hK;have e:_=_:=e0;have f:_=_:=f0;go_simp;first|exact kq hK rfl|exact hK _ _ (VisK.refl _ _) rfl|exact hK _ _ (Below.refl _ _) rfl|exact hK _ _ (aK (VisK.refl _ _)) rfl)):∀j p,(o::l)[j]?=some p->dH P ops Q md C S U V a0 (k+j) p:=aD (eG ho hg fun ev w _ _ hc hf hold hval a K ha hK=>h ev w hc hf (hval i d hb hd) (hval j c hb2 hd2) a K ha hK) hl
theorem pV3 {P:Program} {ops:Array Oper} {Q:Exit->Act->World->Prop} {md:Region.Mode} {C:World->Prop} {S:Nat->World->World->Prop} {U:Nat->World->Prop} {V:Nat->Value->World->Prop} {a0:Act} {k:Nat} {o:Oper} {l:List Oper} (i d:Nat) (hl:∀j p,l[j]?=some p->dH P ops Q md C S U V a0 (k+1+j) p) (ho:ops[k]?=some o:=by rfl) (hg:o.guard=none:=by rfl) (hb:o.after.toList.any (fun e=>Region.binds md e&&e.on==i)=true:=by kernel_rfl) (hd:((ops[i]?).bind (·.dst))=some d:=by rfl) (h:∀(ev:Operand->Value) (w:World),(∀v,ev (.const v)=v)->(∀f,ev (.func f)=.func (.func f) #[] #[])->V i (ev (.tmp d)) w->∀(a:Act) (K:Act->World->Prop),a.eval=ev->(∀v w',S k w w'->V k v w'->K (a.put o.dst v) w')->Oper.upon P o a K Q ((execOp ev o).run P w):=by (intro ev w hc hf e0 a K ha hK;have e:_=_:=e0;go_simp;first|exact kq hK rfl|exact hK _ _ (VisK.refl _ _) rfl|exact hK _ _ (Below.refl _ _) rfl|exact hK _ _ (aK (VisK.refl _ _)) rfl)):∀j p,(o::l)[j]?=some p->dH P ops Q md C S U V a0 (k+j) p:=aD (eG ho hg fun ev w _ _ hc hf hold hval a K ha hK=>h ev w hc hf (hval i d hb hd) a K ha hK) hl
theorem pH3 {P:Program} {ops:Array Oper} {Q:Exit->Act->World->Prop} {md:Region.Mode} {C:World->Prop} {S:Nat->World->World->Prop} {U:Nat->World->Prop} {V:Nat->Value->World->Prop} {a0:Act} {k:Nat} {o:Oper} {l:List Oper} (t:Nat) (x:Value) (hl:∀j p,l[j]?=some p->dH P ops Q md C S U V a0 (k+1+j) p) (ho:ops[k]?=some o:=by rfl) (hg:o.guard=none:=by rfl) (hb:rH md ops k t=true:=by kernel_rfl) (hx:a0.eval (.tmp t)=x:=by rfl) (h:∀(ev:Operand->Value) (w:World),(∀v,ev (.const v)=v)->(∀f,ev (.func f)=.func (.func f) #[] #[])->ev (.tmp t)=x->∀(a:Act) (K:Act->World->Prop),a.eval=ev->(∀v w',S k w w'->V k v w'->K (a.put o.dst v) w')->Oper.upon P o a K Q ((execOp ev o).run P w):=by (intro ev w hc hf e a K ha hK;go_simp;first|exact kq hK rfl|exact hK _ _ (VisK.refl _ _) rfl|exact hK _ _ (Below.refl _ _) rfl|exact hK _ _ (aK (VisK.refl _ _)) rfl)):∀j p,(o::l)[j]?=some p->dH P ops Q md C S U V a0 (k+j) p:=aD (eG ho hg fun ev w _ _ hc hf hold hval a K ha hK=>h ev w hc hf ((hold t hb).trans hx) a K ha hK) hl
end
section
variable {P : Program} {ops : Array Oper} {Q : Exit -> Act -> World -> Prop} {md : Region.Mode}
def upB (md:Region.Mode) (ops:Array Oper):Nat->Nat->Nat->Bool
 | 0,_,_=>false
 | f+1,j,i=>match ops[j]? with
   | some o=>o.after.toList.any fun e=>Region.binds md e&&(e.on==i||upB md ops f e.on i)
   | none=>false
theorem kC {listed:Array Bool} (hs:∀k p,ops[k]?=some p->listed.getD k false=true->∀e∈p.after,Region.binds md e=true->listed.getD e.on false=true):
 ∀f j i o,ops[j]?=some o->(∀e∈o.after,Region.binds md e=true->listed.getD e.on false=true)->upB md ops f j i=true->listed.getD i false=true:=by
 intro f
 induction f with
 | zero=>intro j i o _ _ h;cases h
 | succ f ih=>
   intro j i o ho ha h;unfold upB at h;rw [ho] at h;obtain ⟨e,he,h2⟩:=List.any_eq_true.1 h;simp only [zBd,Bool.or_eq_true,zCq] at h2;have hl:=ha e (Array.mem_toList_iff.1 he) h2.1;rcases h2.2 with h3 | h3;rw [<-h3];exact hl
   · cases hp:ops[e.on]? with
     | none=>
       exfalso;cases f with
       | zero=>cases h3
       | succ f=>unfold upB at h3;rw [hp] at h3;cases h3
     | some p=>exact ih e.on i p hp (hs e.on p hp hl) h3
structure Loose7 (md:Region.Mode) (ops:Array Oper) (C:World->Prop) (U:Nat->World->Prop) (V:Nat->Value->World->Prop) (a0:Act) (listed:Array Bool) (a:Act) (w:World):Prop where
 world:C w
 pre:∀j o,ops[j]?=some o->listed.getD j false=false->U j w
 size:a.tmps.size=a0.tmps.size
 defers:a.defers=a0.defers
 old:∀t,(∀k p,ops[k]?=some p->p.dst=some t->listed.getD k false=false)->a.tmps.getD t undef=a0.tmps.getD t undef
 val:∀i o,ops[i]?=some o->listed.getD i false=true->∃v,(∀d,o.dst=some d->a.tmps.getD d undef=v)/\V i v w
 shut:∀k p,ops[k]?=some p->listed.getD k false=true->∀e∈p.after,Region.binds md e=true->listed.getD e.on false=true
theorem aA0 (C:World->Prop) (S:Nat->World->World->Prop) (U:Nat->World->Prop) (V:Nat->Value->World->Prop) (a0:Act)
 (W0:World) (hlaid:jB md ops a0.tmps.size=true) (hC0:C W0) (hU0:∀i,U i W0) (hC:∀j w w',C w->S j w w'->C w') (hU:∀i j w w',i≠j->upB md ops ops.size j i=false->U i w->C w->S j w w'->U i w')
 (hstab:∀i j v w w',i≠j->vB md ops i j=false->V i v w->C w->S j w w'->V i v w')
 (hstep:∀j o,ops[j]?=some o->dH P ops Q md C S U V a0 j o)
 (hend:∀a w,C w->a.tmps.size=a0.tmps.size->a.defers=a0.defers->
  (∀t,(∀(k:Nat) (p:Oper),ops[k]?=some p->p.dst≠some t)->a.tmps.getD t undef=a0.tmps.getD t undef)->
  (∀i o,ops[i]?=some o->∃v,(∀d,o.dst=some d->a.tmps.getD d undef=v)/\V i v w)->Q .normal a w):
 wpAny P md ops Q ops.size (Array.replicate ops.size false) a0 W0:=by
 have done:∀listed a w,listed.size=ops.size->(∀i,i < ops.size->listed.getD i false=true)->Loose7 md ops C U V a0 listed a w->Q .normal a w:=by intro listed a w hl hall h;refine hend a w h.world h.size h.defers (fun t ht=>h.old t fun k p hp hd=>absurd hd (ht k p hp)) fun i o ho=>h.val i o ho (hall i (zAh.1 ho).1)
 have none_ready:∀listed:Array Bool,listed.size=ops.size->Region.ready md ops listed= []->∀i,i < ops.size->listed.getD i false=true:=by
  intro listed hl hr i
  induction i using Nat.strongRecOn with
  | _ i ih=>
    intro hi;cases hc:listed.getD i false with
    | true=>rfl
    | false=>
      exfalso;have hm:i∈Region.ready md ops listed:=(by refine mem_ready.2 ⟨?_,ops[i],zAq hi,fun e he hb=>?_⟩;have hi':i < listed.size:=oM;simp [hi'] at hc⊢;exact hc;have:=(dW hlaid (zAq hi)).1 e he hb;exact ih e.on this oM);rw [hr] at hm;cases hm
 have main:∀fuel listed a w,listed.size=ops.size->listed.toList.count false<=fuel->Loose7 md ops C U V a0 listed a w->wpAny P md ops Q fuel listed a w:=by
  intro fuel
  induction fuel with
  | zero=>
    intro listed a w hl hc h
    have hall:∀i,i < ops.size->listed.getD i false=true:=by
        intro i hi;have hi':i < listed.size:=oM;cases hv:listed.getD i false with
        | true=>rfl
        | false=>
          exfalso;have:false∈listed.toList:=(by simp [hi'] at hv;exact hv ▸(by simp));have:=List.count_pos_iff.2 this;omega
    refine ⟨?_,done listed a w hl hall h⟩;cases hr:Region.ready md ops listed with
    | nil=>rfl
    | cons i l=>
      exfalso;have hi:i∈Region.ready md ops listed:=(by rw [hr];exact List.mem_cons_self ..);obtain ⟨h0,o,ho,_⟩:=mem_ready.1 hi;have hlt:i < ops.size:=(zAh.1 ho).1;have h1:=hall i hlt;have hi':i < listed.size:=oM;simp [hi'] at h0 h1;rw [h0] at h1;cases h1
  | succ fuel ih=>
    intro listed a w hl hc h;refine ⟨fun hr=>done listed a w hl (none_ready listed hl hr) h,fun j hj=>?_⟩;obtain ⟨h0,o,ho,haft⟩:=mem_ready.1 hj;have hlt:j < ops.size:=(zAh.1 ho).1;have hjl:j < listed.size:=oM;have h0':listed.getD j false=false:=(by simp [hjl] at h0⊢;exact h0);refine hstep j o ho a w h.world (h.pre j o ho h0') h.size h.defers (fun t ht=>h.old t fun k p hp hd=>?_) (fun e he hb p d hp hd=>by obtain ⟨v,h1,h2⟩:=h.val e.on p hp (haft e he hb);rw [h1 d hd];exact h2) _ fun v w' hS hV=>?_
    · rcases vT ht hp hd with rfl |⟨e,he,hb,heq⟩;exact h0'
      · cases hk:listed.getD k false with
        | false=>rfl
        | true=>
          have:=h.shut k p hp hk e he hb;rw [heq,h0'] at this;cases this
    · refine ih _ _ _ (by simpa using hl) ?_ ?_;have hv:listed.toList[j]'(by simpa using hjl)=false:=(by simp [hjl] at h0'⊢;exact h0');rw [Array.toList_setIfInBounds,List.count_set (by simpa using hjl),hv];simp;have hm:false∈listed.toList:=hv ▸ zBj _;have:=List.count_pos_iff.2 hm;rw [<-Array.count_toList];omega
      · have hsz:(a.put o.dst v).tmps.size=a0.tmps.size:=by
          rw [<-h.size];cases o.dst with
          | none=>rfl
          | some d=>simp [Act.put]
        refine ⟨hC j w w' h.world hS,fun i p hp hi=>?_,hsz,?_,fun t ht=>?_,fun i p hp hi=>?_,fun k p hp hk e he hb=>?_⟩
        · have hji:i≠j:=fun e=>by rw [e,bO _ _ hjl] at hi;cases hi
          rw [getD_set_ne false hji.symm] at hi;refine hU i j w w' hji ?_ (h.pre i p hp hi) h.world hS;cases hup:upB md ops ops.size j i with
          | false=>rfl
          | true=>
            have:=kC h.shut _ j i o ho haft hup;rw [hi] at this;cases this
        · rw [<-h.defers];cases o.dst <;> rfl
        · have hne:o.dst≠some t:=fun hd=>by have:=ht j o ho hd;rw [bO _ _ hjl] at this;cases this
          have hold:=h.old t fun k p hp hd=>by
           have:=ht k p hp hd;cases hk:listed.getD k false with
           | false=>rfl
           | true=>
             by_cases hjk:j=k
             · subst hjk;rw [h0'] at hk;cases hk
             · rw [getD_set_ne false hjk,hk] at this;cases this
          rw [<-hold];cases hod:o.dst with
          | none=>rfl
          | some d=>
            have hdt:d≠t:=fun h=>hne (by rw [hod,h]);simp [Act.put,zAm,hdt]
        · rcases eP _ _ _ hi with rfl | hi1
          · rw [ho] at hp;injection hp with hp;subst hp;refine ⟨v,fun d hd=>?_,hV⟩;have hdl:=((dW hlaid ho).2 d hd).1;rw [hd];have:d < a.tmps.size:=(by rw [h.size];exact hdl);simp [Act.put,zAm,this]
          · by_cases hij:i=j
            · subst hij;rw [h0'] at hi1;cases hi1
            obtain ⟨u,hu,hv⟩:=h.val i p hp hi1
            have haf:vB md ops i j=false:=by
              cases hc:vB md ops i j with
              | false=>rfl
              | true=>
                exfalso;unfold vB at hc;rw [hp] at hc;obtain ⟨e,he,h2⟩:=List.any_eq_true.1 hc;simp only [zBd,zCq] at h2;have:=h.shut i p hp hi1 e (Array.mem_toList_iff.1 he) h2.1;rw [h2.2,h0'] at this;cases this
            refine ⟨u,fun d hd=>?_,hstab _ _ _ _ _ hij haf hv h.world hS⟩;rw [<-hu d hd];cases hod:o.dst with
            | none=>rfl
            | some d'=>
              have hdt:d'≠d:=fun h=>hij (((dW hlaid ho).2 d' hod).2 i p hp (h ▸ hd));simp [Act.put,zAm,hdt]
        rcases eP _ _ _ hk with rfl | hk;rw [ho] at hp;injection hp with hp;subst hp;have h1:=haft e he hb;by_cases hje:k=e.on;rw [<-hje];exact bO _ _ hjl _;rw [getD_set_ne false hje];exact h1;have h1:=h.shut k p hp hk e he hb;by_cases hje:j=e.on;rw [<-hje];exact bO _ _ hjl _;rw [getD_set_ne false hje];exact h1
 refine main _ _ _ _ (by simp) (by simp) ⟨hC0,fun j _ _ _=>hU0 j,rfl,rfl,fun _ _=>rfl,fun i o ho hi=>?_,fun k p hp hk=>?_⟩
 · have hlt:i < ops.size:=(zAh.1 ho).1;simp [hlt] at hi
 · have hlt:k < ops.size:=(zAh.1 hp).1;simp [hlt] at hk
theorem qR (ds:List Nat) (C:World->Prop) (S:Nat->World->World->Prop) (U:Nat->World->Prop) (V:Nat->Value->World->Prop) (a0:Act) (W0:World)
 (hds:ops.toList.filterMap (·.dst)=ds)
 (hlaid:jB md ops a0.tmps.size=true) (hC0:C W0) (hU0:∀i,U i W0) (hC:∀j w w',C w->S j w w'->C w') (hU:∀i j w w',i≠j->upB md ops ops.size j i=false->U i w->C w->S j w w'->U i w')
 (hstab:∀i j v w w',i≠j->vB md ops i j=false->V i v w->C w->S j w w'->V i v w')
 (hstep:∀j o,ops[j]?=some o->dH P ops Q md C S U V a0 j o)
 (hend:∀(ev:Operand->Value) w,C w->(∀i d,((ops[i]?).bind (·.dst))=some d->V i (ev (.tmp d)) w)->(∀i,i < ops.size->∃v,V i v w)->Q .normal (aI ev ds a0) w):
 wpAny P md ops Q ops.size (Array.replicate ops.size false) a0 W0:=by
 refine aA0 C S U V a0 W0 hlaid hC0 hU0 hC hU hstab hstep fun a w hS hsz hdf hold hval=>?_;have h1:=hend a.eval w hS (fun i d hd=>by
  cases ho:ops[i]? with
  | none=>rw [ho] at hd;cases hd
  | some o=>
    rw [ho] at hd;obtain ⟨v,h1,h2⟩:=hval i o ho;have:=h1 d hd;change V i (a.tmps.getD d undef) w;rw [this];exact h2) (fun i hi=>by
  obtain ⟨v,_,h2⟩:=hval i _ (zAq hi);exact ⟨v,h2⟩)
 rw [<-oB a a0 ds hsz hdf fun t ht=>hold t fun k p hp hd=>ht ?_] at h1;exact h1;rw [<-hds];exact List.mem_filterMap.2 ⟨p,Array.mem_toList_iff.2 (Array.mem_of_getElem? hp),hd⟩
end
def pQ (F:Nat->Prop) (J j:Nat) (w w':World):Prop:=(j=J->Keep F w w')/\(j≠J->Grow w w')
theorem jY {F:Nat->Prop} {J j:Nat} {w w':World} (h:pQ F J j w w'):Keep F w w':=by
 by_cases hj:j=J;exact h.1 hj;exact Keep.of_below (h.2 hj)
theorem aJ {F:Nat->Prop} {J j:Nat} {w w':World} (h:Grow w w'):pQ F J j w w':=⟨fun _=>Keep.of_below h,fun _=>h⟩
theorem kq {F:Nat->Prop} {J j:Nat} {w:World} {V Q:Value->World->Prop} (hK:∀v w',pQ F J j w w'->V v w'->Q v w') {v:Value} (h:V v w):Q v w:=hK v w (aJ bR) h
theorem aW {F:Nat->Prop} {J:Nat} {w w':World} (h:Keep F w w'):pQ F J J w w':=⟨fun _=>h,fun e=>absurd rfl e⟩
def yS (F:Nat->Prop) (p:Value->World->Prop):Prop:=∀v w w',p v w->Keep F w w'->p v w'
theorem iR (F:Nat->Prop) (c:Value):yS F (is c):=fun _ _ _ h _=>h
theorem wO {F:Nat->Prop} {l:List (Value->World->Prop)} (h:∀p∈l,yS F p):∀i v w w',Vs l i v w->Keep F w w'->Vs l i v w':=by
 intro i v w w' hv hk;unfold Vs at hv⊢;rw [zAb] at hv⊢;cases hl:l[i]? with
 | none=>simp
 | some p=>rw [hl] at hv;simp only [Option.getD_some] at hv⊢;exact h p (zAd hl) v w w' hv hk
def VsJ (J:Nat) (pJ:Value->World->Prop) (l:List (Value->World->Prop)) (i:Nat):Value->World->Prop:=if i=J then pJ else Vs l i
theorem bH {P:Program} {ops:Array Oper} {Q:Exit->Act->World->Prop} {md:Region.Mode} (ds:List Nat) (F:Nat->Prop) (J:Nat) (rd:List Nat) (pre:World->Prop) (pJ:Value->World->Prop) (l:List (Value->World->Prop)) (a0:Act) (W0:World)
 (hds:ops.toList.filterMap (·.dst)=ds) (hlaid:jB md ops a0.tmps.size=true)
 (hrd:(rd.all fun i=>i==J||upB md ops ops.size J i)=true)
 (hp0:pre W0) (hp:∀w w',pre w->Keep F W0 w->Grow w w'->pre w') (hJ:Stb pJ) (hst:∀p∈l,yS F p)
 (hstep:∀j o,ops[j]?=some o->dH P ops Q md (Keep F W0) (pQ F J) (fun i w=>rd.contains i=true->pre w) (VsJ J pJ l) a0 j o)
 (hend:∀(ev:Operand->Value) w,Keep F W0 w->(∀i d,((ops[i]?).bind (·.dst))=some d->VsJ J pJ l i (ev (.tmp d)) w)->(∀i,i < ops.size->∃v,VsJ J pJ l i v w)->Q .normal (aI ev ds a0) w):
 wpAny P md ops Q ops.size (Array.replicate ops.size false) a0 W0:=by
 refine qR ds (Keep F W0) (pQ F J) (fun i w=>rd.contains i=true->pre w) (VsJ J pJ l) a0 W0 hds hlaid (Keep.refl _ _) (fun _ _=>hp0) (fun j w w' h k=>h.trans (jY k)) (fun i j w w' hij hup hi hC k hir=>?_) (fun i j v w w' hij _ hv _ k=>?_) hstep hend;by_cases hj:j=J;exfalso;subst hj;have h2:=zBf.1 hrd i (by simpa using hir);simp only [hup,Bool.or_false,zCq] at h2;exact hij h2;exact hp w w' (hi hir) hC (k.2 hj);unfold VsJ at hv⊢;by_cases hi:i=J;rw [zBx hi] at hv⊢;exact hJ v w w' hv (k.2 fun e=>hij (hi.trans e.symm));rw [zBw hi] at hv⊢;exact wO hst i v w w' hv (jY k)
theorem tN {F:Nat->Prop} {w w':World} {base sz n:Nat} {e:TypeId} {v:Value} {xs:List Value} (h:w.ownsRow base e sz v n xs) (k:Keep F w w') (hf:∀b,F b->b < base):w'.ownsRow base e sz v n xs:=by
 refine ⟨h.1,?_⟩;rcases h.2 with h1 |⟨g,cap,cur,h1,h2,h3,h4⟩;exact .inl h1;exact .inr ⟨g,cap,cur,h1,h2,(k.block g (lt_of_block h3) (fun f=>by have:=hf g f;omega)).trans h3,h4⟩
theorem Made.keepF {F:Nat->Prop} {w w':World} {base sz n c:Nat} {e:TypeId} {A:Option Addr} {xs:List Value} (h:Made w base e sz A n c xs) (k:Keep F w w') (hf:∀b,F b->b < base):Made w' base e sz A n c xs:=
 ⟨tN h.own k hf,Rd.of_own (tN h.own k hf),h.cap,h.max⟩
theorem Made.mono {w:World} {B B' sz n c:Nat} {e:TypeId} {A:Option Addr} {xs:List Value} (h:Made w B e sz A n c xs) (hB:B'<=B):Made w B' e sz A n c xs:=⟨bF h.own hB,h.rd,h.cap,h.max⟩
def kH (B:Nat) (e:TypeId) (sz n:Nat) (xs:List Value):Value->World->Prop:=fun v w=>∃A c,v=.slice A n c/\Made w B e sz A n c xs
theorem lJ {F:Nat->Prop} {B:Nat} (hf:∀b,F b->b < B) (e:TypeId) (sz n:Nat) (xs:List Value):yS F (kH B e sz n xs):=fun _ _ _ ⟨A,c,h1,h2⟩ k=>⟨A,c,h1,h2.keepF k hf⟩
def nS (F:Nat->Prop) (e:TypeId) (cs:Array Value) (mk:Nat->Value):Value->World->Prop:=fun v w=>∃g,v=mk g/\Bk w g e cs/\¬F g
theorem pX (F:Nat->Prop) (e:TypeId) (cs:Array Value) (mk:Nat->Value):yS F (nS F e cs mk):=fun _ _ _ ⟨g,h1,h2,h3⟩ k=>⟨g,h1,k.bk h2 h3,h3⟩
def cR:Value->World->Prop:=fun _ _=>True
theorem fZ (F:Nat->Prop):yS F cR:=fun _ _ _ _ _=>trivial
end
end Go.Proofs.YthldmddkfbijhaaGreatDoor
