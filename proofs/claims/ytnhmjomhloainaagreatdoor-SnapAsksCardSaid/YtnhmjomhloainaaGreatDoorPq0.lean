/- Parts of the walk, joined from several texts. Conditions: what each lemma says. -/
import Derived.Test.YtnhmjomhloainaaGreatDoorProg
import Derived.WalkKit
import Derived.WalkSpells
import Derived.WalkLawsBesides
import Derived.WalkSmall
import Derived.Lib.Hide
import Derived.Maps.AppendAt
import Derived.Deep.AppendLies
import Derived.Laws.OwnMore
import Derived.OneCell
import Derived.Laws.BytesArg
import Derived.Laws.IdiomStrings
import Derived.ProofKit
import Derived.OpenShut
import Derived.ShutString
import Derived.ChangeOld
import Derived.Carry
import Derived.Laws.BitsLemmas
import Derived.Laws.Bits64
set_option linter.all false
set_option maxRecDepth 100000
set_option maxHeartbeats 1000000
namespace Go.Proofs.YtnhmjomhloainaaGreatDoor
open Go.RowKit
abbrev zAa:=@List.getElem?_eq_getElem
abbrev zAb:=@List.getD_eq_getElem?_getD
abbrev zAc:=@List.getElem?_eq_some_iff
abbrev zAd:=@List.mem_of_getElem?
abbrev zAe:=@List.forall_mem_cons
abbrev zAf:=@List.getElem?_map
abbrev zAg:=@List.take_of_length_le
abbrev zAh:=@Array.getElem?_eq_some_iff
abbrev zAi:=@List.length_append
abbrev zAj:=@List.length_take
abbrev zAk:=@Nat.le_trans
abbrev zAl:=@Nat.lt_of_lt_of_le
abbrev zAm:=@Array.getD_eq_getD_getElem?
abbrev zAn:=@List.getElem?_append_left
abbrev zAo:=@List.getElem?_append_right
abbrev zAp:=@Nat.zero_le
abbrev zAq:=@Array.getElem?_eq_getElem
abbrev zAr:=@List.pairwise_iff_getElem
abbrev zAs:=@Nat.le_refl
abbrev zAt:=@List.length_set
abbrev zAu:=@List.take_append_drop
abbrev zAv:=@List.take_add_one
abbrev zAw:=@List.length_drop
abbrev zAx:=@List.drop_eq_getElem_cons
abbrev zAy:=@List.mem_map
abbrev zAz:=@List.map_append
abbrev zBa:=@Nat.eq_zero_or_pos
abbrev zBb:=@Nat.add_sub_cancel
abbrev zBc:=@List.length_map
abbrev zBd:=@Bool.and_eq_true
abbrev zBe:=@Nat.lt_or_ge
abbrev zBf:=@List.all_eq_true
abbrev zBg:=@List.getElem?_eq_none
abbrev zBh:=@List.countP_le_length
abbrev zBi:=@Nat.zero_add
abbrev zBj:=@List.getElem_mem
abbrev zBk:=@List.eq_nil_of_length_eq_zero
abbrev zBl:=@Nat.mul_one
abbrev zBm:=@List.getElem?_set
abbrev zBn:=@List.countP_cons
abbrev zBo:=@List.mem_iff_getElem
abbrev zBp:=@Nat.pow_le_pow_right
abbrev zBq:=@Nat.add_zero
abbrev zBr:=@Int.toNat_natCast
abbrev zBs:=@List.getElem?_take
abbrev zBt:=@List.getElem?_drop
abbrev zBu:=@Nat.mod_eq_of_lt
abbrev zBv:=@List.count_le_length
abbrev zBw:=@if_neg
abbrev zBx:=@if_pos
abbrev zBy:=@decide_eq_false
abbrev zBz:=@decide_eq_true
abbrev zCa:=@decide_eq_true_eq
abbrev zCb:=@beq_eq_false_iff_ne
abbrev zCc:=@List.count_append
abbrev zCd:=@Array.getElem?_setIfInBounds
abbrev zCe:=@Array.getElem?_setIfInBounds_ne
abbrev zCf:=@List.length_cons
abbrev zCg:=@List.map_map
abbrev zCh:=@List.length_range
abbrev zCi:=@List.mem_range
abbrev zCj:=@List.getElem?_range
abbrev zCk:=@Nat.lt_irrefl
abbrev zCl:=@Nat.le_of_lt
abbrev zCm:=@List.length_replicate
abbrev zCn:=@List.append_assoc
abbrev zCo:=@List.mem_append
abbrev zCp:=@beq_iff_eq
abbrev zCq:=@Nat.add_comm
abbrev zCr:=@Nat.le_of_eq
abbrev zCs:=@List.length_filter_le
abbrev zCt:=@List.mem_filter
abbrev zCu:=@List.getElem?_toArray
theorem eqx {α:Sort _} (a:α):∃x,a=x:=⟨_,rfl⟩
theorem oM {p:Prop} (h:p:=by omega):p:=h
theorem dC {p:Prop} (h:p:=by decide):p:=h
theorem kR {p:Prop} (h:p:=by kernel_rfl):p:=h
theorem nL {n:Nat}:n<=n:=zAs n
theorem bR {B:Nat} {w:World}:Below B w w:=Below.refl B w
theorem zq1 {α β:Type} {f:β->α->β} {b:β} {a:α} {l:List α}:(a::l).foldl f b=l.foldl f (f b a):=rfl
theorem zq2 {α β:Type} {f:β->α->β} {b:β}:([]:List α).foldl f b=b:=rfl
theorem zq3 {α:Type} {l:List α} {i:Nat} {a:α}:l.toArray.setIfInBounds i a=(l.set i a).toArray:=List.setIfInBounds_toArray l i a
theorem zq4 {α:Type} {l:List α} {a b:α}:(a::l).set 0 b=b::l:=rfl
theorem zq5 {α:Type} {l:List α} {a b:α} {n:Nat}:(a::l).set (n+1) b=a::l.set n b:=rfl
theorem lhd {P:Prop} (h:P):Hid P:=Lib.hid h
theorem hqq2 {p0 p1:Prop} (h0:p0) (h1:p1):Hid p0/\Hid p1:=⟨lhd h0,lhd h1⟩
theorem hqq3 {p0 p1 p2:Prop} (h0:p0) (h1:p1) (h2:p2):Hid p0/\Hid p1/\Hid p2:=⟨lhd h0,lhd h1,lhd h2⟩
theorem hqq4 {p0 p1 p2 p3:Prop} (h0:p0) (h1:p1) (h2:p2) (h3:p3):Hid p0/\Hid p1/\Hid p2/\Hid p3:=⟨lhd h0,lhd h1,lhd h2,lhd h3⟩
theorem hqq5 {p0 p1 p2 p3 p4:Prop} (h0:p0) (h1:p1) (h2:p2) (h3:p3) (h4:p4):Hid p0/\Hid p1/\Hid p2/\Hid p3/\Hid p4:=⟨lhd h0,lhd h1,lhd h2,lhd h3,lhd h4⟩
theorem hqq6 {p0 p1 p2 p3 p4 p5:Prop} (h0:p0) (h1:p1) (h2:p2) (h3:p3) (h4:p4) (h5:p5):Hid p0/\Hid p1/\Hid p2/\Hid p3/\Hid p4/\Hid p5:=⟨lhd h0,lhd h1,lhd h2,lhd h3,lhd h4,lhd h5⟩
theorem hqq7 {p0 p1 p2 p3 p4 p5 p6:Prop} (h0:p0) (h1:p1) (h2:p2) (h3:p3) (h4:p4) (h5:p5) (h6:p6):Hid p0/\Hid p1/\Hid p2/\Hid p3/\Hid p4/\Hid p5/\Hid p6:=⟨lhd h0,lhd h1,lhd h2,lhd h3,lhd h4,lhd h5,lhd h6⟩
theorem hqq8 {p0 p1 p2 p3 p4 p5 p6 p7:Prop} (h0:p0) (h1:p1) (h2:p2) (h3:p3) (h4:p4) (h5:p5) (h6:p6) (h7:p7):Hid p0/\Hid p1/\Hid p2/\Hid p3/\Hid p4/\Hid p5/\Hid p6/\Hid p7:=⟨lhd h0,lhd h1,lhd h2,lhd h3,lhd h4,lhd h5,lhd h6,lhd h7⟩
theorem hqq9 {p0 p1 p2 p3 p4 p5 p6 p7 p8:Prop} (h0:p0) (h1:p1) (h2:p2) (h3:p3) (h4:p4) (h5:p5) (h6:p6) (h7:p7) (h8:p8):Hid p0/\Hid p1/\Hid p2/\Hid p3/\Hid p4/\Hid p5/\Hid p6/\Hid p7/\Hid p8:=⟨lhd h0,lhd h1,lhd h2,lhd h3,lhd h4,lhd h5,lhd h6,lhd h7,lhd h8⟩
theorem fC {a b:Int} (h:a=b):Ending.returned (.int .i64 a)=Ending.returned (.int .i64 b):=by rw [h]
theorem eP {a b:Bool} (h:a=b):Ending.returned (.bool a)=Ending.returned (.bool b):=by rw [h]
theorem eB {a b:Int} (h:a=b):Value.int .i64 a=Value.int .i64 b:=by rw [h]
theorem gA {k:IntKind} {a b:Int} (h:a=b):Value.int k a=Value.int k b:=by rw [h]
theorem fM (n M:Int) (h:0 < M):∃k:Nat,(IntKind.u64.wrap n).tmod M=(k:Int)/\(k:Int) < M:=by
 have h0:0<=IntKind.u64.wrap n:=by rw [IntKind.wrap_u64];omega
 refine ⟨((IntKind.u64.wrap n).tmod M).toNat,?_,?_⟩;have:=Int.tmod_nonneg M h0;omega;have h1:=Int.tmod_nonneg M h0;have h2:=Int.tmod_lt_of_pos (IntKind.u64.wrap n) h;omega
def bv (c:UInt8):Value:=.int .u8 (c.toNat:Int)
def iv (n:Int):Value:=.int .i64 n
theorem kW (l:List UInt8):∀u∈l.map bv,u.oneCell'=true:=by
 intro u hu;obtain ⟨c,_,rfl⟩:=zAy.1 hu;rfl
theorem nR (b off j:Nat):(⟨b,off,none⟩:Addr).add j=⟨b,off+j,none⟩:=by
 unfold Addr.add;split <;> simp_all
def Rd (w:World) (B sz:Nat) (A:Option Addr) (n:Nat) (xs:List Value):Prop:=
 xs.length=n*sz/\(0 < n->∃b off,A=some ⟨b,off,none⟩/\b < B/\∀j u,xs[j]?=some u->w.cell? ⟨b,off+j,none⟩=some u)
section
variable {w w' : World} {B B' sz n : Nat} {A : Option Addr} {xs : List Value}
theorem Rd.nil (w:World) (B sz:Nat) (A:Option Addr):Rd w B sz A 0 []:=⟨by simp,fun h=>absurd h oM⟩
theorem Rd.get {k:Nat} (h:Rd w B 1 A n xs) (hk:k < n):∃b off u,A=some ⟨b,off,none⟩/\b < B/\xs[k]?=some u/\w.cell? ⟨b,off+k,none⟩=some u:=by
 obtain ⟨b,off,e,hb,hc⟩:=h.2 oM;have hl:k < xs.length:=by have:=h.1;omega
 exact ⟨b,off,xs[k],e,hb,zAa hl,hc k _ (zAa hl)⟩
theorem Rd.keep (h:Rd w B sz A n xs) (hk:∀p:Addr,p.block < B->w'.cell? p=w.cell? p):Rd w' B sz A n xs:=
 ⟨h.1,fun hn=>by
   obtain ⟨b,off,e,hb,hc⟩:=h.2 hn;exact ⟨b,off,e,hb,fun j u hu=>(hk _ hb).trans (hc j u hu)⟩⟩
theorem Rd.mono (h:Rd w B sz A n xs) (hB:B<=B'):Rd w B' sz A n xs:=
 ⟨h.1,fun hn=>by
   obtain ⟨b,off,e,hb,hc⟩:=h.2 hn;exact ⟨b,off,e,by omega,hc⟩⟩
theorem Rd.below (h:Rd w B sz A n xs) (hb:Below B w w'):Rd w' B sz A n xs:=h.keep fun _ hp=>hb.cell hp
theorem Rd.drew (h:Rd w B sz A n xs):Rd w.drew B sz A n xs:=h
theorem Rd.drewN (h:Rd w B sz A n xs) (k:Nat):Rd (w.drewN k) B sz A n xs:=h
theorem Rd.alloc (h:Rd w B sz A n xs) (hB:B<=w.heap.size) (o:Obj):Rd (w.alloc o) B sz A n xs:=h.below (bR.alloc hB o)
theorem Rd.of_own {base:Nat} {e:TypeId} {c:Nat} (h:w.ownsRow base e sz (.slice A n c) n xs):Rd w w.heap.size sz A n xs:=by
 refine ⟨h.1,fun hn=>?_⟩;obtain ⟨g,cap,hv,_,hlt⟩:=h.form hn;have hA:A=some ⟨g,0,none⟩:=by injection hv
 subst hA;refine ⟨g,0,rfl,hlt,fun j u hu=>?_⟩;have:=h.cells (g:=g) rfl j u hu;rwa [nR] at this
def dX (A:Option Addr) (c k sz:Nat):Option Addr:=if c=k then A else A.map (·.add (k*sz))
theorem Rd.cut (h:Rd w B sz A n xs) {k cap:Nat} (hk:k<=n) (hc:n<=cap):Rd w B sz (dX A cap k sz) (n - k) (xs.drop (k*sz)):=by
 refine ⟨by rw [zAw,h.1,Nat.sub_mul],fun hn=>?_⟩;obtain ⟨b,off,rfl,hb,hcell⟩:=h.2 oM;rw [dX,zBw oM];refine ⟨b,off+k*sz,by simp [nR],hb,fun j u hu=>?_⟩;rw [Nat.add_assoc];exact hcell _ u (by rw [<-hu,zBt])
theorem Rd.cut_hi (h:Rd w B sz A n xs) {k:Nat} (hk:k<=n):Rd w B sz A k (xs.take (k*sz)):=by
 have hle:k*sz<=n*sz:=Nat.mul_le_mul_right _ hk;refine ⟨by rw [zAj,h.1];omega,fun hn=>?_⟩;obtain ⟨b,off,rfl,hb,hcell⟩:=h.2 oM;refine ⟨b,off,rfl,hb,fun j u hu=>hcell j u ?_⟩;rw [zBs] at hu;split at hu;exact hu
 · cases hu
theorem Rd.cut_hi0 (h:Rd w B sz A n xs) {k cap:Nat} (hk:k<=n):Rd w B sz (dX A cap 0 sz) k (xs.take (k*sz)):=by
 have h1:=h.cut_hi hk;refine ⟨h1.1,fun hn=>?_⟩;obtain ⟨b,off,rfl,hb,hc⟩:=h1.2 hn;refine ⟨b,off,?_,hb,hc⟩;unfold dX;split <;> simp [nR]
end
section
variable {P : Program} (t e : TypeId) (sz : Nat) (ht : P.underlying t = some (.slice e)) (hs : ∀ w, (sizeOf e).run P w = .ok sz w)
include ht hs
theorem oK (A:Option Addr) (n c k:Nat) (hk:k<=n) (w:World):
 (Instr.sliceAt t (.slice A n c) (some (.int .i64 (k:Int))) none none).run P w=.ok (.slice (dX A c k sz) (n - k) (c - k)) w:=by
 have he:P.elem t=e:=by simp [Program.elem,ht]
 have ht':P.underlying t=some (.slice (P.elem t)):=by rw [he];exact ht
 rw [run_sliceAt_slice (h:=ht'),run_slice_l (ht:=ht') (h0:=oM) (h1:=oM),he,hs];simp [Result.andThen,sliced,dX]
theorem kS (A:Option Addr) (n c k:Nat) (hk:k<=c) (w:World):
 (Instr.sliceAt t (.slice A n c) none (some (.int .i64 (k:Int))) none).run P w=.ok (.slice (dX A c 0 sz) k c) w:=by
 have he:P.elem t=e:=by simp [Program.elem,ht]
 have ht':P.underlying t=some (.slice (P.elem t)):=by rw [he];exact ht
 rw [run_sliceAt_slice (h:=ht'),run_slice_h (ht:=ht') (h0:=oM) (h2:=oM),he,hs];simp [Result.andThen,sliced,dX]
theorem zP (A:Option Addr) (n c k h:Nat) (hk:k<=h) (hh:h<=c) (w:World):
 (Instr.sliceAt t (.slice A n c) (some (.int .i64 (k:Int))) (some (.int .i64 (h:Int))) none).run P w=.ok (.slice (dX A c k sz) (h - k) (c - k)) w:=by
 have he:P.elem t=e:=by simp [Program.elem,ht]
 have ht':P.underlying t=some (.slice (P.elem t)):=by rw [he];exact ht
 rw [run_sliceAt_slice (h:=ht'),run_slice_lh (ht:=ht') (h0:=oM) (h1:=oM) (h2:=oM),he,hs];simp [Result.andThen,sliced,dX]
end
theorem aR {w:World} {base:Nat} {e:TypeId} {sz:Nat} {v:Value} {n:Nat} {xs:List Value} (h:w.ownsRow base e sz v n xs):
 ∃A c,v=.slice A n c/\n<=c/\(∀a,A=some a->base<=a.block/\a.block < w.heap.size):=by
 rcases h.2 with ⟨rfl,rfl⟩|⟨g,cap,cur,rfl,hb,hg,hn,_⟩;exact ⟨none,0,rfl,zAs _,fun a h=>by cases h⟩
 · exact ⟨_,cap,rfl,hn,fun a h=>by cases h;exact ⟨hb,(zAh.1 hg).1⟩⟩
def Bk (w:World) (g:Nat) (t:TypeId) (cs:Array Value):Prop:=w.heap[g]?=some (.cells cs t (0,0))
section
variable {w w' : World} {g : Nat} {t : TypeId} {cs : Array Value}
theorem Bk.lt (h:Bk w g t cs):g < w.heap.size:=lt_of_block h
theorem Bk.cell (h:Bk w g t cs) (i:Nat):w.cell? ⟨g,i,none⟩=cs[i]?:=cell_of_row w g i cs t (0,0) h
theorem Bk.frozen (h:Bk w g t cs) (i:Nat):w.frozen? ⟨g,i,none⟩=false:=frozen_of_row w g i cs t h
theorem Bk.new (w:World) (t:TypeId) (cs:Array Value):Bk (w.alloc (.cells cs t)) w.heap.size t cs:=heap_alloc_new w _
theorem Bk.drew (h:Bk w g t cs):Bk w.drew g t cs:=h
theorem Bk.drewN (h:Bk w g t cs) (n:Nat):Bk (w.drewN n) g t cs:=h
theorem Bk.alloc (h:Bk w g t cs) (o:Obj):Bk (w.alloc o) g t cs:=(Below.heap_alloc w o g h.lt).trans h
theorem Bk.set (h:Bk w g t cs) (i:Nat) (u:Value):Bk (w.setCell ⟨g,i,none⟩ u) g t (cs.setIfInBounds i u):=heap_setCell_same w g i cs t u h
theorem Bk.far (h:Bk w g t cs) {p:Addr} (hp:g≠p.block) (u:Value):Bk (w.setCell p u) g t cs:=(heap_setCell_other w p g u hp).trans h
theorem Bk.below {B:Nat} (h:Bk w g t cs) (hb:Below B w w') (hg:g < B):Bk w' g t cs:=(hb.block g hg).trans h
theorem Bk.grown {row:Option Nat} (h:Bk w g t cs) (hb:w.grownBy w' row) (hg:some g≠row):Bk w' g t cs:=(hb.block g h.lt hg).trans h
theorem Bk.ne {g':Nat} {t':TypeId} {cs':Array Value} (h:Bk w g t cs) (h':Bk w g' t' cs') (hne:t≠t'):g≠g':=by
 rintro rfl;unfold Bk at h h';rw [h] at h';injection h' with h';injection h' with _ ht;exact hne ht
end
structure Keep (F:Nat->Prop) (w w':World):Prop where
 os:w'.os=w.os
 tape:w'.tape=w.tape
 output:w'.output=w.output
 size:w.heap.size<=w'.heap.size
 block:∀k,k < w.heap.size->¬F k->w'.heap[k]?=w.heap[k]?
theorem kD {F:Nat->Prop} {w w':World} (h:Keep F w.drew w'):Keep F w w':=⟨h.os,h.tape,h.output,h.size,h.block⟩
section
variable {F G : Nat -> Prop} {w w1 w' : World}
theorem Keep.refl (F:Nat->Prop) (w:World):Keep F w w:=⟨rfl,rfl,rfl,zAs _,fun _ _ _=>rfl⟩
theorem Keep.trans (h:Keep F w w1) (k:Keep F w1 w'):Keep F w w':=
 ⟨k.os.trans h.os,k.tape.trans h.tape,k.output.trans h.output,zAk h.size k.size,fun i hi hn=>(k.block i (zAl hi h.size) hn).trans (h.block i hi hn)⟩
theorem Keep.trans' (h:Keep F w w1) (k:Keep G w1 w') (hg:∀b,b < w.heap.size->G b->F b):Keep F w w':=
 ⟨k.os.trans h.os,k.tape.trans h.tape,k.output.trans h.output,zAk h.size k.size,fun i hi hn=>(k.block i (zAl hi h.size) (fun g=>hn (hg i hi g))).trans (h.block i hi hn)⟩
theorem Keep.mono (h:Keep F w w') (hf:∀b,b < w.heap.size->F b->G b):Keep G w w':=⟨h.os,h.tape,h.output,h.size,fun i hi hn=>h.block i hi (fun f=>hn (hf i hi f))⟩
theorem Keep.of_below (h:Below w.heap.size w w'):Keep F w w':=⟨h.os,h.tape,h.output,h.size,fun i hi _=>h.block i hi⟩
theorem Keep.to_below (h:Keep F w w') {B:Nat} (hB:B<=w.heap.size) (hf:∀b,b < B->¬F b):Below B w w':=⟨h.os,h.tape,h.output,h.size,fun i hi=>h.block i oM (hf i hi)⟩
theorem Keep.setCell (h:Keep F w w1) {p:Addr} (hp:F p.block∨w.heap.size<=p.block) (u:Value):Keep F w (w1.setCell p u):=
 ⟨h.os,h.tape,h.output,by simpa [World.setCell] using h.size,fun i hi hn=>(heap_setCell_other w1 p i u (by
  rintro rfl;rcases hp with hp | hp;exact hn hp
  · omega)).trans (h.block i hi hn)⟩
theorem Keep.alloc (h:Keep F w w1) (o:Obj):Keep F w (w1.alloc o):=
 ⟨h.os,h.tape,h.output,zAk h.size (by simp),fun i hi hn=>(Below.heap_alloc w1 o i (zAl hi h.size)).trans (h.block i hi hn)⟩
theorem Keep.drew (h:Keep F w w1):Keep F w w1.drew:=⟨h.os,h.tape,h.output,h.size,h.block⟩
theorem Keep.drewN (h:Keep F w w1) (n:Nat):Keep F w (w1.drewN n):=⟨h.os,h.tape,h.output,h.size,h.block⟩
theorem Keep.grown (h:Keep F w w1) {row:Option Nat} (hg:w1.grownBy w' row) (hr:∀k,row=some k->F k∨w.heap.size<=k):Keep F w w':=
 ⟨hg.os.trans h.os,hg.tape.trans h.tape,hg.output.trans h.output,zAk h.size hg.size,fun i hi hn=>
  (hg.block i (zAl hi h.size) (fun e=>by rcases hr i e.symm with f | f;exact hn f;omega)).trans (h.block i hi hn)⟩
theorem Keep.cell (h:Keep F w w') {p:Addr} (hp:p.block < w.heap.size) (hn:¬F p.block):w'.cell? p=w.cell? p:=World.cell?_of_block (h.block p.block hp hn)
theorem Keep.bk {g:Nat} {t:TypeId} {cs:Array Value} (h:Keep F w w') (hb:Bk w g t cs) (hn:¬F g):Bk w' g t cs:=(h.block g hb.lt hn).trans hb
theorem Keep.rd {B sz n:Nat} {A:Option Addr} {xs:List Value} (h:Keep F w w') (hr:Rd w B sz A n xs) (hB:B<=w.heap.size) (hn:∀b,b < B->¬F b):Rd w' B sz A n xs:=
 hr.keep fun p hp=>h.cell oM (hn _ hp)
end
section
variable {P : Program} (w : World)
theorem pI (base:Nat) (t ty e:TypeId) (i:TypeInfo) (sz:Nat) (ht:P.underlying t=some (.slice e)) (hi:P.info? e=some i)
 (v:Value) (n:Nat) (xs:List Value) (hown:w.ownsRow base e sz v n xs) (c:Nat):(Builtin.append_ #[t,t] ty #[v,.slice none 0 c]).run P w=.ok v w:=by
 rcases hown.2 with ⟨rfl,rfl⟩|⟨g,cap,cur,rfl,_,_,hnc,_⟩
 · simp [Builtin.append_,run_underlying ht,sizeOf,typeInfo,hi,Builtin.lenOf,Builtin.firstCells]
 · simp [Builtin.append_,run_underlying ht,sizeOf,typeInfo,hi,Builtin.lenOf,Builtin.firstCells,hnc,storeCells]
theorem xF (base:Nat) (t ty e:TypeId) (i:TypeInfo) (z:Value) (sz bytes:Nat) (ht:P.underlying t=some (.slice e)) (hi:P.info? e=some i) (hz:i.zero=some z)
 (hsize:i.size=sz) (hby:i.bytes=bytes) (hzs:z.cells.size=sz) (hsz:0 < sz)
 (v:Value) (n:Nat) (xs:List Value) (hown:w.ownsRow base e sz v n xs)
 (B:Nat) (A:Option Addr) (m c:Nat) (news:List Value) (hr:Rd w B sz A m news) (h1:∀u∈news,u.oneCell'=true)
 (h63:n+m<=maxLen) (hbytes:(n+m)*bytes<=140737488355328) (hbase:base<=w.heap.size):
 ∃v' w',(Builtin.append_ #[t,t] ty #[v,.slice A m c]).run P w=.ok v' w'/\w'.ownsRow base e sz v' (n+m) (xs++news)/\w.grownBy w' v.ownBlock/\
  (v'.ownBlock=v.ownBlock∨v'.ownBlock=some w.heap.size):=by
 rcases A with _ | ad
 · have hm:m=0:=by
    rcases zBa m with h0 | h0;exact h0
    · obtain ⟨_,_,h,_⟩:=hr.2 h0;cases h
   subst hm;have hn:news= []:=zBk (by simpa using hr.1);subst hn;exact ⟨v,w,pI w base t ty e i sz ht hi v n xs hown c,by simpa using hown,World.grownBy.refl w _,.inl rfl⟩
 · have hcells:∀j u,news[j]?=some u->w.cell? (ad.add j)=some u:=by
    intro j u hu;rcases zBa m with h0 | h0
    · subst h0;have hn:news= []:=zBk (by simpa using hr.1);subst hn;simp at hu
    obtain ⟨b,off,h,_,hc⟩:=hr.2 h0;injection h with h;subst h;rw [nR];exact hc j u hu
   obtain ⟨v',w',hrun,h2,h3,_,h5⟩:=run_append_own_at (P:=P) w base t ty e i z sz bytes ht hi hz hsize hby hzs hsz v n xs hown ad m c news hr.1 hcells h1 h63 hbytes hbase;exact ⟨v',w',hrun,h2,h3,h5⟩
theorem eJ {o:Oper} {a:Act} {K:Act->World->Prop} {Q:Exit->Act->World->Prop} (s x:Operand) (t:TypeId)
 (ho:o.op=.call { callee:=.builtin .append,args:=#[s,x],argTypes:=#[t,t] })
 (base:Nat) (e:TypeId) (i:TypeInfo) (z:Value) (sz bytes:Nat) (ht:P.underlying t=some (.slice e)) (hi:P.info? e=some i) (hz:i.zero=some z)
 (hsize:i.size=sz) (hby:i.bytes=bytes) (hzs:z.cells.size=sz) (hsz:0 < sz)
 (v:Value) (n:Nat) (xs:List Value) (hs:a.eval s=v) (hown:w.ownsRow base e sz v n xs)
 (B:Nat) (A:Option Addr) (m c:Nat) (news:List Value) (hx:a.eval x=.slice A m c) (hr:Rd w B sz A m news) (h1:∀u∈news,u.oneCell'=true)
 (h63:n+m<=maxLen) (hbytes:(n+m)*bytes<=140737488355328) (hbase:base<=w.heap.size)
 (h:∀v' w',w'.ownsRow base e sz v' (n+m) (xs++news)->w.grownBy w' v.ownBlock->(v'.ownBlock=v.ownBlock∨v'.ownBlock=some w.heap.size)->K (a.put o.dst v') w'):o.wp P a w K Q:=by
 obtain ⟨v',w',hrun,h2,h3,h4⟩:=xF (P:=P) w base t o.type e i z sz bytes ht hi hz hsize hby hzs hsz v n xs hown B A m c news hr h1 h63 hbytes hbase;unfold Oper.wp execOp;simp only [ho,resolve,invoke,builtin,Sem.run_bind,Sem.run_pure,Result.andThen_ok,List.map_toArray,List.map_cons,List.map_nil,hs,hx,hrun];exact h v' w' h2 h3 h4
theorem bY {ops:Array Oper} {rest:List Oper} {o:Oper} {a:Act} {Q:Exit->Act->World->Prop} (hgd:o.guard=none) (s x:Operand) (t:TypeId)
 (ho:o.op=.call { callee:=.builtin .append,args:=#[s,x],argTypes:=#[t,t] })
 (base:Nat) (e:TypeId) (i:TypeInfo) (z:Value) (sz bytes:Nat) (ht:P.underlying t=some (.slice e)) (hi:P.info? e=some i) (hz:i.zero=some z)
 (hsize:i.size=sz) (hby:i.bytes=bytes) (hzs:z.cells.size=sz) (hsz:0 < sz)
 (v:Value) (n:Nat) (xs:List Value) (hs:a.eval s=v) (hown:w.ownsRow base e sz v n xs)
 (B:Nat) (A:Option Addr) (m c:Nat) (news:List Value) (hx:a.eval x=.slice A m c) (hr:Rd w B sz A m news) (h1:∀u∈news,u.oneCell'=true)
 (h63:n+m<=maxLen) (hbytes:(n+m)*bytes<=140737488355328) (hbase:base<=w.heap.size)
 (h:∀v' w',w'.ownsRow base e sz v' (n+m) (xs++news)->w.grownBy w' v.ownBlock->(v'.ownBlock=v.ownBlock∨v'.ownBlock=some w.heap.size)->wpList P ops Q rest (a.put o.dst v') w'):wpList P ops Q (o::rest) a w:=
 wpList_plain hgd fun _ hK=>eJ w s x t ho base e i z sz bytes ht hi hz hsize hby hzs hsz v n xs hs hown B A m c news hx hr h1 h63 hbytes hbase fun v' w' h2 h3 h4=>hK _ _ (h v' w' h2 h3 h4)
end
theorem Rd.new_ (w:World) (e:TypeId) (sz:Nat) (cs:Array Value) (hs:cs.size=sz):Rd (w.alloc (.cells cs e)) (w.heap.size+1) sz (some ⟨w.heap.size,0,none⟩) 1 cs.toList:=by
 refine ⟨by simp [hs],fun _=>⟨_,0,rfl,by omega,fun j u hu=>?_⟩⟩;rw [(Bk.new w e cs).cell];simpa using hu
theorem Rd.made (w:World) (e:TypeId) (sz n:Nat) (cs:Array Value) (hs:cs.size=n*sz):Rd (w.alloc (.cells cs e)) (w.alloc (.cells cs e)).heap.size sz (some ⟨w.heap.size,0,none⟩) n cs.toList:=by
 refine ⟨by simp [hs],fun _=>⟨_,0,rfl,by simp,fun j u hu=>?_⟩⟩;rw [(Bk.new w e cs).cell];simpa using hu
theorem Rd.made' (w:World) (e:TypeId) (sz n:Nat) (cs:Array Value) (g:Nat) (hs:cs.size=n*sz) (hg:g=w.heap.size):Rd (w.alloc (.cells cs e)) (w.alloc (.cells cs e)).heap.size sz (some ⟨g,0,none⟩) n cs.toList:=by
 subst hg;exact Rd.made w e sz n cs hs
structure Made (w:World) (B:Nat) (e:TypeId) (sz:Nat) (A:Option Addr) (n c:Nat) (xs:List Value):Prop where
 own:w.ownsRow B e sz (.slice A n c) n xs
 rd:Rd w w.heap.size sz A n xs
 cap:n<=c
 max:c<=maxLen
theorem aS {w:World} {B:Nat} {e:TypeId} {sz:Nat} {v:Value} {n:Nat} {xs:List Value} (h:w.ownsRow B e sz v n xs):∃A c,v=.slice A n c/\Made w B e sz A n c xs:=by
 rcases h.2 with ⟨rfl,rfl⟩|⟨g,cap,cur,rfl,hb,hg,hn,hm,_⟩;exact ⟨none,0,rfl,h,Rd.of_own h,zAs _,zAp _⟩;exact ⟨_,cap,rfl,h,Rd.of_own h,hn,hm⟩
theorem Made.below {w w':World} {B:Nat} {e:TypeId} {sz:Nat} {A:Option Addr} {n c:Nat} {xs:List Value} (h:Made w B e sz A n c xs) (hb:Below w.heap.size w w'):Made w' B e sz A n c xs:=
 ⟨h.own.kept (row:=none) ⟨hb.os,hb.tape,hb.output,hb.size,fun k hk _=>hb.block k hk⟩ (by cases A <;> simp [Value.ownBlock]),(h.rd.below hb).mono hb.size,h.cap,h.max⟩
theorem Made.len {w:World} {B:Nat} {e:TypeId} {A:Option Addr} {n c:Nat} {xs:List Value} (h:Made w B e 1 A n c xs):xs.length=n:=by have:=h.rd.1;omega
theorem nC (w:World) (e:TypeId) (sz:Nat):(w.alloc (.cells #[] e)).ownsRow w.heap.size e sz (.slice (some ⟨w.heap.size,0,none⟩) 0 0) 0 []:=
 World.ownsRow_made w #[] 0 nL (zAp _) (by simp)
theorem aV {w w':World} {B:Nat} {e:TypeId} {sz n:Nat} {v:Value} {xs:List Value} (h:w.ownsRow B e sz v n xs) (hb:Below w.heap.size w w'):w'.ownsRow B e sz v n xs:=
 h.kept (row:=none) ⟨hb.os,hb.tape,hb.output,hb.size,fun k hk _=>hb.block k hk⟩ (by cases v.ownBlock <;> simp)
theorem aZ {w:World} {base:Nat} {e t:TypeId} {sz n g:Nat} {v:Value} {xs:List Value} {cs:Array Value} (h:w.ownsRow base e sz v n xs) (hg:Bk w g t cs) (hne:e≠t):some g≠v.ownBlock:=by
 rcases h.2 with ⟨rfl,_⟩|⟨g',cap,cur,rfl,_,hh,_⟩
 · simp [Value.ownBlock]
 intro he;have:g=g':=(by simpa [Value.ownBlock] using he);subst this;exact Bk.ne (t:=e) hh hg hne rfl
theorem aCT {w:World} {b1 b2:Nat} {e1 e2:TypeId} {s1 s2 n1 n2:Nat} {v1 v2:Value} {x1 x2:List Value} (h1:w.ownsRow b1 e1 s1 v1 n1 x1) (h2:w.ownsRow b2 e2 s2 v2 n2 x2) (hne:e2≠e1):v1.ownBlock=none∨v1.ownBlock≠v2.ownBlock:=by
 rcases h1.2 with ⟨rfl,_⟩|⟨g,cap,cur,rfl,_,hg,_⟩;exact .inl rfl;exact .inr (aZ h2 hg hne)
theorem bX {w:World} {B B':Nat} {e:TypeId} {sz n:Nat} {v:Value} {xs:List Value} (h:w.ownsRow B e sz v n xs) (hB:B'<=B):w.ownsRow B' e sz v n xs:=by
 refine ⟨h.1,?_⟩;rcases h.2 with h1 |⟨g,cap,cur,h1,h2,h3⟩;exact .inl h1;exact .inr ⟨g,cap,cur,h1,zAk hB h2,h3⟩
theorem uX {w w':World} {o:Obj} {row:Option Nat} (h:(w.alloc o).grownBy w' row):w.grownBy w' row:=
 ⟨h.os,h.tape,h.output,zAk (by simp) h.size,fun k hk hn=>(h.block k (by simp;omega) hn).trans (Below.heap_alloc w o k hk)⟩
theorem aY {P:Program} {w:World} {ops:Array Oper} {rest:List Oper} {o:Oper} {a:Act} {Q:Exit->Act->World->Prop} (cs:Array Value) (hgd:o.guard=none) (s x:Operand) (t:TypeId)
 (ho:o.op=.call { callee:=.builtin .append,args:=#[s,x],argTypes:=#[t,t] })
 (base:Nat) (e:TypeId) (i:TypeInfo) (z:Value) (sz bytes:Nat) (ht:P.underlying t=some (.slice e)) (hi:P.info? e=some i) (hz:i.zero=some z)
 (hsize:i.size=sz) (hby:i.bytes=bytes) (hzs:z.cells.size=sz) (hsz:0 < sz)
 (v:Value) (n:Nat) (xs:List Value) (hs:a.eval s=v) (hown:w.ownsRow base e sz v n xs)
 (hx:a.eval x=.slice (some ⟨w.heap.size,0,none⟩) 1 1) (hcs:cs.size=sz) (h1:∀u∈cs.toList,u.oneCell'=true)
 (h63:n+1<=maxLen) (hbytes:(n+1)*bytes<=140737488355328) (hbase:base<=w.heap.size)
 (h:∀v' w',w'.ownsRow base e sz v' (n+1) (xs++cs.toList)->w.grownBy w' v.ownBlock->w.heap.size < w'.heap.size->(v'.ownBlock=v.ownBlock∨v'.ownBlock=some (w.heap.size+1))->wpList P ops Q rest (a.put o.dst v') w'):wpList P ops Q (o::rest) a (w.alloc (.cells cs e)):=
 bY _ hgd s x t ho base e i z sz bytes ht hi hz hsize hby hzs hsz v n xs hs (hown.alloc _) _ _ 1 1 cs.toList hx (Rd.new_ w e sz cs hcs) h1 h63 hbytes (by simp;omega)
  fun v' w' h2 h3 h4=>h v' w' h2 (uX h3) (by have:=h3.size;simp at this;omega) (by simpa using h4)
theorem aA7 {P:Program} (t:TypeId) (h:P.underlying t=some .string) (s:ByteArray) (j:Nat) (hj:j < s.size) (W:World):
 (Instr.index t (.string s) (.int .i64 (j:Int))).run P W=.ok (.int .u8 ((s[j]'hj).toNat:Int)) W:=by
 rw [run_index_string (h:=h),dif_pos oM];rfl
theorem oJ {P:Program} {w:World} {B n c:Nat} {A:Option Addr} {l:List UInt8} (src dst e:TypeId) (hs:P.underlying src=some (.slice e)) (he:P.underlying e=some (.int .u8)) (hd:P.underlying dst=some .string)
 (hr:Rd w B 1 A n (l.map bv)):(convert src dst (.slice A n c)).run P w=.ok (.string ⟨l.toArray⟩) w:=by
 have hn:l.length=n:=by simpa using hr.1
 subst hn;rcases zBa l.length with h0 | h0;have:l= []:=zBk h0;subst this;have hl:=run_loadCells_list (P:=P) w (A.getD ⟨0,0,none⟩) [] (fun j v hj=>by simp at hj);rcases A with _ | a;exact run_convert_bytes_nil w src e hs he _ _ dst hd;exact run_convert_bytes_back w src dst e a c [] hs he hd (fun j hj=>by simp at hj)
 · obtain ⟨b,off,rfl,_,hc⟩:=hr.2 h0;refine run_convert_bytes_back w src dst e _ c l hs he hd fun j hj=>?_;rw [nR];exact hc j _ (by rw [zAf,zAa hj];rfl)
theorem aCN {P:Program} {f:FuncId} {args:Array Value} {w:World} {n:Nat} {v:Value}
 (h:Calls P f args (w.drewN n) fun e w'=>e=.returned v/\w.drewN n=w'):Calls P f args (w.drewN n) fun e w''=>e=.returned v/\∃m,w''=w.drewN m:=
 h.mono fun _ _ ⟨he,hm⟩=>⟨he,n,hm.symm⟩
theorem aW {B:Nat} {w0 w w':World} {e:TypeId} {sz n:Nat} {v:Value} {xs:List Value} (h:Below B w0 w) (ho:w.ownsRow B e sz v n xs) (hg:w.grownBy w' v.ownBlock) (hB:B<=w.heap.size):Below B w0 w':=
 h.grown hg hB fun k hk=>(ho.lt k hk).1
end Go.Proofs.YtnhmjomhloainaaGreatDoor
namespace Go.Proofs.YtnhmjomhloainaaGreatDoor
def bF (x n:Nat):Nat:=(List.range n).countP (fun i=>x.testBit i)
theorem nD (x:Nat):bF x 0=0:=rfl
theorem dD (x n:Nat):bF x (n+1)=bF x n+if x.testBit n then 1 else 0:=by
 unfold bF;rw [List.range_succ,List.countP_append,List.countP_singleton]
theorem nE (x n:Nat):bF x n<=n:=by
 induction n with
 | zero=>exact zAs _
 | succ n ih=>
   rw [dD];split <;> omega
theorem aBr (x n m:Nat):bF x (n+m)=bF x n+bF (x >>> n) m:=by
 induction m with
 | zero=>simp [nD]
 | succ m ih=>
   rw [<-Nat.add_assoc,dD,ih,dD,Nat.testBit_shiftRight];omega
theorem aBq (x n:Nat):bF (x % 2 ^ n) n=bF x n:=by
 unfold bF;apply List.countP_congr;intro i hi;have:=zCi.1 hi;simp [Nat.testBit_mod_two_pow,this]
theorem eZ (A a M m s:Nat) (ha:a < 256) (hs:s<=8) (hm:m < 2 ^(8 - s)):((256*A+a)>>> s)&&&(256*M+m)=256*((A >>> s)&&& M)+((a >>> s)&&& m):=by
 apply Nat.eq_of_testBit_eq;intro i;have hm8:m < 2 ^ 8:=zAl hm (zBp dC oM);have h1:((a >>> s)&&& m) < 2 ^ 8:=Nat.lt_of_le_of_lt Nat.and_le_right hm8;rw [Nat.testBit_and,Nat.testBit_shiftRight,show (256:Nat)=2 ^ 8 by decide,Nat.testBit_two_pow_mul_add _ (by simpa using ha),Nat.testBit_two_pow_mul_add _ hm8,Nat.testBit_two_pow_mul_add _ h1];by_cases hi:i < 8
 · by_cases h2:s+i < 8
   · simp [hi,h2,Nat.testBit_and]
   · have h3:m.testBit i=false:=Nat.testBit_lt_two_pow (zAl hm (zBp dC oM));simp [hi,h2,Nat.testBit_and,h3]
 · have h2:¬(s+i < 8):=oM;have h3:s+i - 8=s+(i - 8):=oM;simp [hi,h2,h3,Nat.testBit_and]
def b1 (a:Nat):Nat:=(a >>> 1&&& 85)+(a&&& 85)
def b2 (a:Nat):Nat:=(a >>> 2&&& 51)+(a&&& 51)
theorem aIT:∀a:Fin 256,b1 a.val < 256/\b2 (b1 a.val)/ 16<=4/\b2 (b1 a.val)% 16<=4/\b2 (b1 a.val)% 16+b2 (b1 a.val)/ 16=bF a.val 8:=by decide+kernel
theorem aBI (a:Nat) (h:a < 256):b1 a < 256/\b2 (b1 a)/ 16<=4/\b2 (b1 a)% 16<=4/\b2 (b1 a)% 16+b2 (b1 a)/ 16=bF a 8:=aIT ⟨a,h⟩
def cH (a0 a1 a2 a3 a4 a5 a6 a7:Nat):Nat:=256*(256*(256*(256*(256*(256*(256*(256*0+a7)+a6)+a5)+a4)+a3)+a2)+a1)+a0
theorem oS (a0 a1 a2 a3 a4 a5 a6 a7 s m:Nat) (h0:a0 < 256) (h1:a1 < 256) (h2:a2 < 256) (h3:a3 < 256) (h4:a4 < 256) (h5:a5 < 256) (h6:a6 < 256) (h7:a7 < 256) (hs:s<=8) (hm:m < 2 ^(8 - s)):
 (cH a0 a1 a2 a3 a4 a5 a6 a7 >>> s)&&& cH m m m m m m m m=cH (a0 >>> s&&& m) (a1 >>> s&&& m) (a2 >>> s&&& m) (a3 >>> s&&& m) (a4 >>> s&&& m) (a5 >>> s&&& m) (a6 >>> s&&& m) (a7 >>> s&&& m):=by
 unfold cH;rw [eZ _ _ _ _ _ h0 hs hm,eZ _ _ _ _ _ h1 hs hm,eZ _ _ _ _ _ h2 hs hm,eZ _ _ _ _ _ h3 hs hm,eZ _ _ _ _ _ h4 hs hm,eZ _ _ _ _ _ h5 hs hm,eZ _ _ _ _ _ h6 hs hm,eZ _ _ _ _ _ h7 hs hm];simp
theorem rJ (a0 a1 a2 a3 a4 a5 a6 a7 m:Nat) (h0:a0 < 256) (h1:a1 < 256) (h2:a2 < 256) (h3:a3 < 256) (h4:a4 < 256) (h5:a5 < 256) (h6:a6 < 256) (h7:a7 < 256) (hm:m < 256):
 cH a0 a1 a2 a3 a4 a5 a6 a7&&& cH m m m m m m m m=cH (a0&&& m) (a1&&& m) (a2&&& m) (a3&&& m) (a4&&& m) (a5&&& m) (a6&&& m) (a7&&& m):=by
 have:=oS a0 a1 a2 a3 a4 a5 a6 a7 0 m h0 h1 h2 h3 h4 h5 h6 h7 oM (by simpa using hm);simpa using this
theorem iW (a0 a1 a2 a3 a4 a5 a6 a7 c0 c1 c2 c3 c4 c5 c6 c7:Nat):
 cH a0 a1 a2 a3 a4 a5 a6 a7+cH c0 c1 c2 c3 c4 c5 c6 c7=cH (a0+c0) (a1+c1) (a2+c2) (a3+c3) (a4+c4) (a5+c5) (a6+c6) (a7+c7):=by
 unfold cH;omega
def aA0 (x:Nat):Nat:=
 let y1:=(x >>> 1&&& 6148914691236517205)+(x&&& 6148914691236517205)
 let y2:=(y1 >>> 2&&& 3689348814741910323)+(y1&&& 3689348814741910323)
 (y2 >>> 4+y2)&&& 1085102592571150095
theorem aGD (x:Nat) (h:x < 18446744073709551616):x=cH (x % 256) (x / 256 % 256) (x / 65536 % 256) (x / 16777216 % 256) (x / 4294967296 % 256) (x / 1099511627776 % 256) (x / 281474976710656 % 256) (x / 72057594037927936 % 256):=by
 unfold cH;omega
theorem aCv (a0 a1 a2 a3 a4 a5 a6 a7:Nat) (h0:a0 < 256) (h1:a1 < 256) (h2:a2 < 256) (h3:a3 < 256) (h4:a4 < 256) (h5:a5 < 256) (h6:a6 < 256) (h7:a7 < 256):
 aA0 (cH a0 a1 a2 a3 a4 a5 a6 a7)=cH (bF a0 8) (bF a1 8) (bF a2 8) (bF a3 8) (bF a4 8) (bF a5 8) (bF a6 8) (bF a7 8):=by
 have m1:(6148914691236517205:Nat)=cH 85 85 85 85 85 85 85 85:=dC;have m2:(3689348814741910323:Nat)=cH 51 51 51 51 51 51 51 51:=dC;have m3:(1085102592571150095:Nat)=cH 15 15 15 15 15 15 15 15:=dC;obtain ⟨p0,q0,u0,r0⟩:=aBI a0 h0;obtain ⟨p1,q1,u1,r1⟩:=aBI a1 h1;obtain ⟨p2,q2,u2,r2⟩:=aBI a2 h2;obtain ⟨p3,q3,u3,r3⟩:=aBI a3 h3;obtain ⟨p4,q4,u4,r4⟩:=aBI a4 h4;obtain ⟨p5,q5,u5,r5⟩:=aBI a5 h5;obtain ⟨p6,q6,u6,r6⟩:=aBI a6 h6;obtain ⟨p7,q7,u7,r7⟩:=aBI a7 h7;have e1:(cH a0 a1 a2 a3 a4 a5 a6 a7 >>> 1&&& 6148914691236517205)+(cH a0 a1 a2 a3 a4 a5 a6 a7&&& 6148914691236517205)=cH (b1 a0) (b1 a1) (b1 a2) (b1 a3) (b1 a4) (b1 a5) (b1 a6) (b1 a7):=by rw [m1,oS _ _ _ _ _ _ _ _ 1 85 h0 h1 h2 h3 h4 h5 h6 h7 oM dC,rJ _ _ _ _ _ _ _ _ 85 h0 h1 h2 h3 h4 h5 h6 h7 oM,iW];rfl
 have e2:(cH (b1 a0) (b1 a1) (b1 a2) (b1 a3) (b1 a4) (b1 a5) (b1 a6) (b1 a7)>>> 2&&& 3689348814741910323)+(cH (b1 a0) (b1 a1) (b1 a2) (b1 a3) (b1 a4) (b1 a5) (b1 a6) (b1 a7)&&& 3689348814741910323)=cH (b2 (b1 a0)) (b2 (b1 a1)) (b2 (b1 a2)) (b2 (b1 a3)) (b2 (b1 a4)) (b2 (b1 a5)) (b2 (b1 a6)) (b2 (b1 a7)):=by rw [m2,oS _ _ _ _ _ _ _ _ 2 51 p0 p1 p2 p3 p4 p5 p6 p7 oM dC,rJ _ _ _ _ _ _ _ _ 51 p0 p1 p2 p3 p4 p5 p6 p7 oM,iW];rfl
 have e3:∀c0 c1 c2 c3 c4 c5 c6 c7:Nat,c0 / 16<=4->c0 % 16<=4->c1 / 16<=4->c1 % 16<=4->c2 / 16<=4->c2 % 16<=4->c3 / 16<=4->c3 % 16<=4->c4 / 16<=4->c4 % 16<=4->c5 / 16<=4->c5 % 16<=4->c6 / 16<=4->c6 % 16<=4->c7 / 16<=4->c7 % 16<=4->
  (cH c0 c1 c2 c3 c4 c5 c6 c7 >>> 4+cH c0 c1 c2 c3 c4 c5 c6 c7)&&& 1085102592571150095=cH (c0 % 16+c0 / 16) (c1 % 16+c1 / 16) (c2 % 16+c2 / 16) (c3 % 16+c3 / 16) (c4 % 16+c4 / 16) (c5 % 16+c5 / 16) (c6 % 16+c6 / 16) (c7 % 16+c7 / 16):=by
  intro c0 c1 c2 c3 c4 c5 c6 c7 x0 y0 x1 y1 x2 y2 x3 y3 x4 y4 x5 y5 x6 y6 x7 y7;have d:cH c0 c1 c2 c3 c4 c5 c6 c7 >>> 4=cH (c0 / 16+16*(c1 % 16)) (c1 / 16+16*(c2 % 16)) (c2 / 16+16*(c3 % 16)) (c3 / 16+16*(c4 % 16)) (c4 / 16+16*(c5 % 16)) (c5 / 16+16*(c6 % 16)) (c6 / 16+16*(c7 % 16)) (c7 / 16):=by rw [Nat.shiftRight_eq_div_pow];unfold cH;omega
  have m15:∀z:Nat,z&&& 15=z % 16:=fun z=>Nat.and_two_pow_sub_one_eq_mod z 4;rw [d,iW,m3,rJ _ _ _ _ _ _ _ _ 15 oM oM oM oM oM oM oM oM oM];simp only [m15];congr 1 <;> omega
 unfold aA0;simp only;rw [e1,e2,e3 _ _ _ _ _ _ _ _ q0 u0 q1 u1 q2 u2 q3 u3 q4 u4 q5 u5 q6 u6 q7 u7,r0,r1,r2,r3,r4,r5,r6,r7]
theorem aFB (p0 p1 p2 p3 p4 p5 p6 p7:Nat) (h0:p0<=8) (h1:p1<=8) (h2:p2<=8) (h3:p3<=8) (h4:p4<=8) (h5:p5<=8) (h6:p6<=8) (h7:p7<=8) (x y z:Nat) (hx:x=cH p0 p1 p2 p3 p4 p5 p6 p7+cH p0 p1 p2 p3 p4 p5 p6 p7 / 256) (hy:y=x+x / 65536) (hz:z=y+y / 4294967296):
 z % 128=p0+p1+p2+p3+p4+p5+p6+p7/\z < 18446744073709551616:=by
 have d1:cH p0 p1 p2 p3 p4 p5 p6 p7 / 256=cH p1 p2 p3 p4 p5 p6 p7 0:=by unfold cH;omega
 rw [d1,iW] at hx;have d2:x / 65536=cH (p2+p3) (p3+p4) (p4+p5) (p5+p6) (p6+p7) (p7+0) 0 0:=by rw [hx];unfold cH;omega
 rw [d2,hx,iW] at hy;have d3:y / 4294967296=cH (p4+p5+(p6+p7)) (p5+p6+(p7+0)) (p6+p7+0) (p7+0+0) 0 0 0 0:=by rw [hy];unfold cH;omega
 rw [d3,hy,iW] at hz;unfold cH at hz;omega
theorem aCW (x:Nat):bF x 64=bF (x % 256) 8+bF (x / 256 % 256) 8+bF (x / 65536 % 256) 8+bF (x / 16777216 % 256) 8+bF (x / 4294967296 % 256) 8+bF (x / 1099511627776 % 256) 8+bF (x / 281474976710656 % 256) 8+bF (x / 72057594037927936 % 256) 8:=by
 have m:=fun y=>aBq y 8;simp only [show (2:Nat)^ 8=256 by decide] at m;simp only [m];rw [show (64:Nat)=8+(8+(8+(8+(8+(8+(8+8)))))) by decide];simp only [aBr];simp only [Nat.shiftRight_eq_div_pow,Nat.div_div_eq_div_mul,show (2:Nat)^ 8=256 by decide,Nat.reduceMul];omega
theorem aIS (x:Nat) (h:x < 18446744073709551616) (a b c:Nat) (ha:a=aA0 x+aA0 x / 256) (hb:b=a+a / 65536) (hc:c=b+b / 4294967296):c % 128=bF x 64/\c < 18446744073709551616:=by
 have e:=aGD x h;have s:=aCv (x % 256) (x / 256 % 256) (x / 65536 % 256) (x / 16777216 % 256) (x / 4294967296 % 256) (x / 1099511627776 % 256) (x / 281474976710656 % 256) (x / 72057594037927936 % 256) oM oM oM oM oM oM oM oM;rw [<-e] at s;rw [s] at ha;have l:=fun y=>nE y 8;rw [aCW x];exact aFB _ _ _ _ _ _ _ _ (l _) (l _) (l _) (l _) (l _) (l _) (l _) (l _) a b c ha hb hc
def jW:Nat->Nat->List UInt8
 | 0,_=> []
 | f+1,n=>if n=0 then [] else jW f (n / 128)++ [UInt8.ofNat (n % 128+128)]
def bK (n:Nat):List UInt8:=jW 10 (n / 128)++ [UInt8.ofNat (n % 128)]
def dH (l:List Nat):List UInt8:=l.flatMap bK
def eD:List UInt8->Bool->Nat->Nat->Option (Nat×Nat)
 | [],_,_,_=>none
 | c::r,first,acc,pos=>
   if (first&&c.toNat==128)||decide (144115188075855871 < acc) then none
   else if c.toNat < 128 then some (acc*128+c.toNat % 128,pos+1) else eD r false (acc*128+c.toNat % 128) (pos+1)
def eC (l:List UInt8) (at_:Int):Nat×Int×Int:=
 if at_ < 0∨(l.length:Int) < at_ then (0,at_,2)
 else match eD (l.drop at_.toNat) true 0 at_.toNat with
    | some (n,p)=>(n,p,0)
    | none=>(0,at_,4)
def uZ:Nat->Nat->List UInt8
 | 0,_=> []
 | k+1,n=>uZ k n++ [UInt8.ofNat (n / 256 ^ k % 256)]
def jJ (n:Nat):List UInt8:=uZ 4 n
def ofN (l:List UInt8) (a:Nat):Nat->Nat
 | 0=>0
 | k+1=>ofN l a k+(l[a+k]?.getD 0).toNat*256 ^ k
def ofB (l:List UInt8) (at_:Int):Nat×Int:=
 if at_ < 0∨(l.length:Int) < at_ then (0,2) else if (l.length:Int) - at_ < 4 then (0,4) else (ofN l at_.toNat 4,0)
theorem aIn (l:List UInt8) (a:Nat) (k:Nat):ofN l a k < 256 ^ k:=by
 induction k with
 | zero=>simp [ofN]
 | succ k ih=>
   have:(l[a+k]?.getD 0).toNat < 256:=UInt8.toNat_lt _;simp only [ofN,Nat.pow_succ];have h2:(l[a+k]?.getD 0).toNat*256 ^ k<=255*256 ^ k:=Nat.mul_le_mul_right _ oM;omega
theorem lB (c:UInt8) (r:List UInt8) (first:Bool) (acc pos:Nat):eD (c::r) first acc pos=
 if (first&&c.toNat==128)||decide (144115188075855871 < acc) then none
 else if c.toNat < 128 then some (acc*128+c.toNat % 128,pos+1) else eD r false (acc*128+c.toNat % 128) (pos+1):=by conv=>lhs;rw [eD]
theorem mY (f:Nat):jW f 0= []:=by cases f <;> simp [jW]
theorem aEz (f:Nat):∀n,n < 128 ^ f->jW (f+1) n=jW f n:=by
 induction f with
 | zero=>intro n h;have:n=0:=by simpa using h
         subst this;simp [jW]
 | succ f ih=>
   intro n h;by_cases h0:n=0
   · subst h0;simp [mY]
   · rw [jW,zBw h0,ih (n / 128) (by rw [Nat.div_lt_iff_lt_mul oM];rw [Nat.pow_succ] at h;exact h)]
     conv=>rhs;rw [jW,zBw h0]
theorem yS (n:Nat) (h0:n≠0) (h:n < 128 ^ 10):jW 10 n=jW 10 (n / 128)++ [UInt8.ofNat (n % 128+128)]:=by
 rw [aEz 9 (n / 128) oM]
 conv=>lhs;rw [jW,zBw h0]
theorem aBp (f:Nat):∀n,(jW f n).length<=f:=by
 induction f with
 | zero=>intro n;simp [jW]
 | succ f ih=>
   intro n;unfold jW;split
   · simp
   have:=ih (n / 128);simp;omega
theorem bN (n:Nat):(bK n).length<=11:=by
 have:=aBp 10 (n / 128);simp [bK];omega
theorem vE (l:List Nat):(dH l).length<=11*l.length:=by
 induction l with
 | nil=>simp [dH]
 | cons a l ih=>
   have:=bN a;simp [dH] at ih⊢;omega
theorem aBC (l:List Nat) (k:Nat) (n:Nat) (h:l[k]?=some n):dH (l.take (k+1))=dH (l.take k)++bK n:=by
 have hk:k < l.length:=(zAc.1 h).1;rw [List.take_succ_eq_append_getElem hk];have:l[k]=n:=(zAc.1 h).2;rw [this];simp [dH,List.flatMap_append]
theorem aHz (n i j:Nat) (h:i+1<=j) (hg:j=0∨1<=n / 2 ^(7*j)):n / 2 ^(7*(i+1))≠0:=by
 have h1:1<=n / 2 ^(7*j):=by rcases hg with h0 | h0 <;> omega
 have h2:n / 2 ^(7*j)<=n / 2 ^(7*(i+1)):=Nat.div_le_div_left (zBp oM oM) (Nat.pow_pos oM);omega
theorem aIp (n i:Nat) (h:n < 18446744073709551616):n / 2 ^(7*(i+1)) < 128 ^ 9:=by
 have h2:n / 2 ^(7*(i+1))<=n / 2 ^ 7:=Nat.div_le_div_left (zBp oM oM) (Nat.pow_pos oM);omega
theorem aIw (n j:Nat):n / 2 ^(7*(j+1))=n / 2 ^(7*j)/ 128:=by
 rw [Nat.div_div_eq_div_mul,show 7*(j+1)=7*j+7 by omega,Nat.pow_add]
theorem aEp (n j:Nat) (h:n < 18446744073709551616) (hj:j<=9) (hg:128<=n / 2 ^(7*j)):j+1<=9:=by
 by_cases h9:j=9;subst h9;rw [Nat.le_div_iff_mul_le dC] at hg;omega;omega
theorem oR (n:Nat):dH [n]=bK n:=by simp [dH]
end Go.Proofs.YtnhmjomhloainaaGreatDoor
namespace Go.Proofs.YtnhmjomhloainaaGreatDoor
open Go.ChangeShapes Go.WideShapes Go.ChangeAt Go.RowKit
theorem fO:laidOutB Tryz.prog=true:=by kernel_rfl
theorem own:ownKnob Tryz.prog.godebug=none:=by kernel_rfl
theorem aHn {k:IntKind} {w:World} {x:Addr} {len cap:Nat} {zs:List Int} (hl:len<=cap) (hz:zs.length=cap) (hb:0 < len->x.block < w.heap.size)
 (hc:∀i,i < zs.length->w.cell? (x.add i)=some (.int k (zs.getD i 0))):Rd w w.heap.size 1 (some x) len ((zs.take len).map (Value.int k)):=by
 refine ⟨by simp;omega,fun hn=>?_⟩;have hc0:=hc 0 oM;obtain ⟨b,off,spot⟩:=x;have hspot:spot=none:=by simpa [Addr.add] using World.cell?_spot hc0
 subst hspot;refine ⟨b,off,rfl,hb hn,fun j u hu=>?_⟩;simp only [zAf,zBs] at hu;split at hu
 · rename_i hj
   have:=hc j oM;rw [nR] at this;rw [this];have hjz:j < zs.length:=oM;rw [zAa hjz] at hu;simp only [Option.map_some,Option.some.injEq] at hu;rw [<-hu,zAb,zAa hjz];rfl
 · simp at hu
theorem aGO (zs:List Int) (h:∀n∈zs,(Lit.int .u8 n).wf=true):∃l:List UInt8,zs.map (Value.int .u8)=l.map bv:=by
 induction zs with
 | nil=>exact ⟨[],rfl⟩
 | cons z zs ih=>
   obtain ⟨l,hl⟩:=ih fun n hn=>h n (List.mem_cons_of_mem _ hn);have hz:=bounds_u8 (h z (List.mem_cons_self ..));refine ⟨UInt8.ofNat z.toNat::l,?_⟩;simp only [List.map_cons,hl];congr 1;unfold bv;congr 1;simp [UInt8.toNat_ofNat'];omega
theorem kN {H:Type} {enc:TypeId×Value->H} {t e:TypeId} {k:IntKind} {w:World} {a:Option Addr} {len cap:Nat} {d:DataW H} {p:List MemPlace}
 (ht:Tryz.prog.underlying t=some (.slice e)) (he:Tryz.prog.underlying e=some (.int k)) (hC:Tryz.prog.cellsOf e=1)
 (h:DataW.Trod enc Tryz.prog w 0 (fun _=>true) true t (.slice a len cap) d p):
 ∃zs:List Int,Rd w w.heap.size 1 a len (zs.map (Value.int k))/\(∀n∈zs,(Lit.int k n).wf=true)/\len<=cap/\cap<=maxLen:=by
 obtain ⟨fuel,hf⟩:=h;rcases open_ints ht he hC hf with ⟨hcs,_⟩|⟨x,l,c,zs,hcs,_,hl,hm,hz,hx,hcell,hwz⟩;simp [Value.cells] at hcs;obtain ⟨rfl,rfl,rfl⟩:=hcs;exact ⟨[],Rd.nil _ _ _ _,by simp,zAs _,zAp _⟩;simp [Value.cells] at hcs;obtain ⟨rfl,rfl,rfl⟩:=hcs;have hzc:zs.length=cap:=(by simpa using hz);refine ⟨zs.take len,aHn hl hzc (fun hn=>?_) hcell,fun n hn=>hwz n (List.mem_of_mem_take hn),hl,hm⟩;have:=World.block_lt_of_cell? w (x.add 0) (hcell 0 oM);simpa [Addr.add] using this
end Go.Proofs.YtnhmjomhloainaaGreatDoor
namespace Go.Proofs.YtnhmjomhloainaaGreatDoor
open Go.RowKit
theorem aBN (a b:Nat) (ha:a < 18446744073709551616) (hb:b < 18446744073709551616):bits .and .u64 (a:Int) (b:Int)=((a&&& b:Nat):Int):=
 (bits_nat .u64 64 dC (fun n h0 h1=>by rw [IntKind.wrap_u64];omega) a b oM oM).1
theorem zL (x k m d:Nat) (hx:x < 18446744073709551616) (hm:m < 18446744073709551616) (hd:2 ^ k=d):bits .and .u64 ((x:Int)/(d:Int)) (m:Int)=((x >>> k&&& m:Nat):Int):=by
 have h1:((x:Int)/(d:Int))=((x >>> k:Nat):Int):=by rw [Nat.shiftRight_eq_div_pow,hd];push_cast;rfl
 have h2:x >>> k < 18446744073709551616:=by rw [Nat.shiftRight_eq_div_pow];exact Nat.lt_of_le_of_lt (Nat.div_le_self _ _) hx
 rw [h1,aBN _ _ h2 hm]
theorem xZ (x:Nat) (hx:x < 18446744073709551616) (w:World):
 Calls Tryz.prog 297 #[.int .u64 (x:Int)] w fun e w'=>e=.returned (.int .i64 ((bF x 64:Nat):Int))/\w=w':=by
 obtain ⟨p1,hp1⟩:∃p,p=x >>> 1&&& 6148914691236517205:=⟨_,rfl⟩;obtain ⟨p2,hp2⟩:∃p,p=x&&& 6148914691236517205:=⟨_,rfl⟩;have b1:p1<=6148914691236517205:=by rw [hp1];exact Nat.and_le_right
 have b2:p2<=6148914691236517205:=by rw [hp2];exact Nat.and_le_right
 obtain ⟨y1,hy1⟩:∃y,y=p1+p2:=⟨_,rfl⟩;obtain ⟨q1,hq1⟩:∃p,p=y1 >>> 2&&& 3689348814741910323:=⟨_,rfl⟩;obtain ⟨q2,hq2⟩:∃p,p=y1&&& 3689348814741910323:=⟨_,rfl⟩;have b3:q1<=3689348814741910323:=by rw [hq1];exact Nat.and_le_right
 have b4:q2<=3689348814741910323:=by rw [hq2];exact Nat.and_le_right
 obtain ⟨y2,hy2⟩:∃y,y=q1+q2:=⟨_,rfl⟩;obtain ⟨r1,hr1⟩:∃r,r=y2 >>> 4+y2:=⟨_,rfl⟩;have hr1':r1=y2 / 16+y2:=by rw [hr1,Nat.shiftRight_eq_div_pow]
 obtain ⟨y3,hy3⟩:∃y,y=r1&&& 1085102592571150095:=⟨_,rfl⟩;have b5:y3<=1085102592571150095:=by rw [hy3];exact Nat.and_le_right
 obtain ⟨y4,hy4⟩:∃y,y=y3+y3 / 256:=⟨_,rfl⟩;obtain ⟨y5,hy5⟩:∃y,y=y4+y4 / 65536:=⟨_,rfl⟩;obtain ⟨y6,hy6⟩:∃y,y=y5+y5 / 4294967296:=⟨_,rfl⟩;have hs:y3=aA0 x:=by rw [hy3,hr1,hy2,hq1,hq2,hy1,hp1,hp2];rfl
 obtain ⟨hfin,hlt⟩:=aIS x hx y4 y5 y6 (by rw [<-hs];exact hy4) hy5 hy6;have k1:bits .and .u64 ((x:Int)/ 2) 6148914691236517205=(p1:Int):=by rw [hp1];exact zL x 1 6148914691236517205 2 hx oM dC
 have k2:bits .and .u64 (x:Int) 6148914691236517205=(p2:Int):=by rw [hp2];exact aBN x 6148914691236517205 hx oM
 have k3:IntKind.u64.wrap ((p1:Int)+(p2:Int))=(y1:Int):=by rw [IntKind.wrap_u64];omega
 have k4:bits .and .u64 ((y1:Int)/ 4) 3689348814741910323=(q1:Int):=by rw [hq1];exact zL y1 2 3689348814741910323 4 oM oM dC
 have k5:bits .and .u64 (y1:Int) 3689348814741910323=(q2:Int):=by rw [hq2];exact aBN y1 3689348814741910323 oM oM
 have k6:IntKind.u64.wrap ((q1:Int)+(q2:Int))=(y2:Int):=by rw [IntKind.wrap_u64];omega
 have k7:IntKind.u64.wrap ((y2:Int)/ 16+(y2:Int))=(r1:Int):=by rw [IntKind.wrap_u64];omega
 have k8:bits .and .u64 (r1:Int) 1085102592571150095=(y3:Int):=by rw [hy3];exact aBN r1 1085102592571150095 oM oM
 have k9:IntKind.u64.wrap ((y3:Int)+(y3:Int)/ 256)=(y4:Int):=by rw [IntKind.wrap_u64];omega
 have k10:IntKind.u64.wrap ((y4:Int)+(y4:Int)/ 65536)=(y5:Int):=by rw [IntKind.wrap_u64];omega
 have k11:IntKind.u64.wrap ((y5:Int)+(y5:Int)/ 4294967296)=(y6:Int):=by rw [IntKind.wrap_u64];omega
 have hy6b:y6 < 9223372036854775808:=oM;have k12:bits .and .i64 (y6:Int) 127=((bF x 64:Nat):Int):=by have:=bits_mask .i64 63 dC (fun n h0 h1=>by rw [IntKind.wrap_i64];omega) 7 dC (y6:Int) oM oM;rw [show ((2:Int)^ 7 - 1)=127 by decide,show ((2:Int)^ 7)=128 by decide] at this;rw [this,<-hfin];omega
 clear hp1 hp2 hy1 hq1 hq2 hy2 hr1 hr1' hy3 hy4 hy5 hy6 hs hfin b1 b2 b3 b4 b5;go_enter Tryz.func297,Tryz.ntmps297;go_wp2;go_ret;exact ⟨fC (by first | exact k12 | simp [k12]),rfl⟩
theorem aGa (x m n:Nat) (h:m<=n):bF (x % 2 ^ m) n=bF x m:=by
 obtain ⟨d,rfl⟩:∃d,n=m+d:=⟨n - m,by omega⟩;rw [aBr,aBq];have:(x % 2 ^ m)>>> m=0:=by rw [Nat.shiftRight_eq_div_pow];exact Nat.div_eq_of_lt (Nat.mod_lt _ (Nat.two_pow_pos m))
 rw [this];have z:∀d,bF 0 d=0:=fun d=>by unfold bF;simp
 rw [z];rfl
def aAb (x:Nat) (k:Int):Nat:=x % 2 ^(min k.toNat 64)
def uvn (n:Nat):Value:=.int .u64 (n:Int)
theorem pR (x:Nat) (k:Int) (hx:x < 18446744073709551616) (hk:-9223372036854775808<=k/\k<=9223372036854775807) (w:World):
 Calls Tryz.prog 285 #[.int .u64 (x:Int),.int .i64 k] w fun e w'=>e=.returned (.int .u64 ((aAb x k:Nat):Int))/\w=w':=by
 unfold aAb;by_cases h0:k<=0
 · have e0:x % 2 ^(min k.toNat 64)=0:=(by rw [show k.toNat=0 by omega];simp [Nat.mod_one]);rw [e0];go_enter Tryz.func285,Tryz.ntmps285;go_wp2;go_ret;exact ⟨rfl,rfl⟩
 · by_cases h1:k>=64
   · have e1:x % 2 ^(min k.toNat 64)=x:=(by rw [show min k.toNat 64=64 by omega];exact zBu oM);rw [e1];have h2:¬(k<=0):=h0;go_enter Tryz.func285,Tryz.ntmps285;go_wp2;go_ret;exact ⟨rfl,rfl⟩
   · obtain ⟨m,rfl⟩:∃m:Nat,k=(m:Int):=⟨k.toNat,by omega⟩;have hm:m < 64:=oM;have d0:decide ((m:Int)<=0)=false:=(by simp;omega);have d1:decide ((m:Int)>=64)=false:=(by simp;omega);have e2:min (m:Int).toNat 64=m:=oM;rw [e2];have hp:2 ^ m < 18446744073709551616:=(by have:=Nat.pow_lt_pow_right (a:=2) dC hm;omega);have hpi:((2:Int)^ m)=((2 ^ m:Nat):Int):=(by push_cast;rfl);have hpos:=Nat.two_pow_pos m;have h1':IntKind.u64.wrap ((2:Int)^ m)=(2:Int)^ m:=(by rw [hpi,IntKind.wrap_u64];omega);have h2':IntKind.u64.wrap ((2:Int)^ m - 1)=(2:Int)^ m - 1:=(by rw [hpi,IntKind.wrap_u64];omega);have h3:bits .and .u64 (x:Int) ((2:Int)^ m - 1)=(x:Int)% 2 ^ m:=bits_mask .u64 64 dC (fun n h0 h1=>by rw [IntKind.wrap_u64];omega) m oM (x:Int) oM oM;clear hpi;go_enter Tryz.func285,Tryz.ntmps285;go_wp2;go_ret;exact ⟨by first | rfl | simp,rfl⟩
theorem gS (A:Option Addr) (m c B:Nat) (l:List Nat) (w:World) (hr:Rd w B 1 A m (l.map uvn)) (hl:∀n∈l,n < 18446744073709551616) (hm:m<=1048576):
 Calls Tryz.prog 284 #[.slice A m c] w fun e w'=>e=.returned (.int .i64 (((l.map fun x=>bF x 64).sum:Nat):Int))/\w=w':=by
 have hll:l.length=m:=by simpa using hr.1
 obtain ⟨Hr,Hl,Hll⟩:=hqq3 hr hl hll;have hb:∀k,((l.take k).map fun x=>bF x 64).sum<=k*64:=fun k=>by
  induction k with
  | zero=>simp
  | succ k ih=>
    by_cases hk:k < l.length;rw [List.take_succ_eq_append_getElem hk,zAz,List.sum_append];have:=nE l[k] 64;simp only [List.map_cons,List.map_nil,List.sum_cons,List.sum_nil];omega;rw [zAg oM];rw [zAg oM] at ih;omega
 have Hb:=lhd hb;clear hr hl hll hb;go_enter Tryz.func284,Tryz.ntmps284;go_wp2;go_loopw [3,8] (fun v i wr=>∃k:Nat,k<=m/\i=.int .i64 k/\v=.int .i64 ((((l.take k).map fun x=>bF x 64).sum:Nat):Int)/\w=wr) (fun _ i _=>m -(intOf i).toNat)
 case atStart=>exact ⟨0,zAp _,rfl,by simp,rfl⟩
 case round=>
  obtain ⟨k,hk,rfl,rfl,rfl⟩:=hrel;by_cases hlt:k < m
  · have hkl:k < l.length:=(by rw [Hll.out];exact hlt);obtain ⟨x,hx⟩:∃x,l[k]?=some x:=⟨l[k],zAa hkl⟩;obtain ⟨b,off,u,rfl,hbl,hu,hc⟩:=Hr.out.get hlt;rw [zAf,hx] at hu;simp at hu;subst hu;unfold uvn at hc;have hx64:=Hl.out x (zAd hx);have hnx:((l.take (k+1)).map fun x=>bF x 64).sum=((l.take k).map fun x=>bF x 64).sum+bF x 64:=(by rw [zAv,hx];simp);have hbd:=Hb.out k;have h64:=nE x 64;generalize ((l.take k).map fun x=>bF x 64).sum=q at*
    have Hnx:=lhd hnx;clear hnx hx;go_wp2_with fail;refine (xZ x hx64 _).mono ?_;rintro e w' ⟨rfl,rfl⟩;go_wp2;go_roundw
    case rel=>exact ⟨k+1,by omega,by go_num,by rw [Hnx.out];go_num,trivial⟩
    case measure=>simp [intOf];omega
  · have hge:m<=k:=oM;have htk:l.take k=l:=zAg (by have:=Hll.out;omega);rw [htk];clear htk;go_wp2;go_ret;exact ⟨rfl,rfl⟩
def uM (x:Nat) (k:Int):Nat:=bF x (min k.toNat 64)
theorem qW (x:Nat) (k:Int) (hx:x < 18446744073709551616) (hk:-9223372036854775808<=k/\k<=9223372036854775807) (w:World):
 Calls Tryz.prog 268 #[.int .u64 (x:Int),.int .i64 k] w fun e w'=>e=.returned (.int .i64 ((uM x k:Nat):Int))/\Below w.heap.size w w':=by
 have hlow:aAb x k < 18446744073709551616:=by unfold aAb;exact Nat.lt_of_le_of_lt (Nat.mod_le _ _) hx
 have hfin:bF (aAb x k) 64=uM x k:=aGa x _ 64 (Nat.min_le_right _ _);go_enter Tryz.func268,Tryz.ntmps268;go_wp2_with fail;refine (pR x k hx hk _).mono ?_;rintro e w' ⟨rfl,rfl⟩;go_wp2_with fail;refine (gS _ 1 1 _ [aAb x k] _ (Rd.made _ _ 1 1 _ rfl) (by simpa using hlow) oM).mono ?_;rintro e w' ⟨rfl,rfl⟩;have hsum:(([aAb x k].map fun x=>bF x 64).sum)=uM x k:=by simp [hfin]
 rw [hsum];go_wp2_with fail;go_ret;exact ⟨rfl,bR.alloc nL _⟩
end Go.Proofs.YtnhmjomhloainaaGreatDoor
