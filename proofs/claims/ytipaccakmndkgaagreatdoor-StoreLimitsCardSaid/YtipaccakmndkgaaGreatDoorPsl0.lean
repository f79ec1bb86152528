/- Words for memory that all walks share: a slice that reads as a list (Rd), a block that is known whole (Bk), what a call leaves alone (Below, and Keep for calls that write), an append from any slice that reads as a list. No conditions. How many bits of a word are 1: the plain law behind math/bits.OnesCount64. No program in sight. No conditions. The plain laws of numbers as bytes: what num.Put and num.Get compute, on lists of bytes. No program in sight. What a law's arguments are, as the walks want them: integers, and slices that read as lists of bytes, of ints, of uint64s. No conditions. -/
import Derived.Test.YtipaccakmndkgaaGreatDoorProg
import Derived.WalkKit
import Derived.WalkSpells
import Derived.WalkLawsBesides
import Derived.WalkSmall
import Derived.Lib.Hide
import Derived.Maps.AppendAt
import Derived.Deep.AppendLies
import Derived.Laws.OwnMore
import Derived.OneCell
import Derived.Laws.BytesArg
import Derived.Laws.IdiomStrings
import Derived.ProofKit
import Derived.OpenShut
import Derived.ShutString
import Derived.ChangeOld
import Derived.Carry
set_option linter.unusedVariables false
set_option linter.unusedSimpArgs false
set_option maxRecDepth 100000
set_option maxHeartbeats 1000000
namespace Go.Proofs.YtipaccakmndkgaaGreatDoor
open Go.RowKit
theorem lhd {P:Prop} (h:P):Hid P:=Lib.hid h
theorem ret_i64 {a b:Int} (h:a=b):Ending.returned (.int .i64 a)=Ending.returned (.int .i64 b):=by rw [h]
theorem ret_bool {a b:Bool} (h:a=b):Ending.returned (.bool a)=Ending.returned (.bool b):=by rw [h]
theorem i64_eq {a b:Int} (h:a=b):Value.int .i64 a=Value.int .i64 b:=by rw [h]
theorem int_eq {k:IntKind} {a b:Int} (h:a=b):Value.int k a=Value.int k b:=by rw [h]
theorem umod_ex (n M:Int) (h:0 < M):∃k:Nat,(IntKind.u64.wrap n).tmod M=(k:Int)∧(k:Int) < M:=by
 have h0:0≤IntKind.u64.wrap n:=by rw [IntKind.wrap_u64];omega
 refine ⟨((IntKind.u64.wrap n).tmod M).toNat,?_,?_⟩
 · have:=Int.tmod_nonneg M h0
   omega
 · have h1:=Int.tmod_nonneg M h0
   have h2:=Int.tmod_lt_of_pos (IntKind.u64.wrap n) h
   omega
def bv (c:UInt8):Value:=.int .u8 (c.toNat:Int)
def iv (n:Int):Value:=.int .i64 n
theorem oneCell_bv (l:List UInt8):∀u∈l.map bv,u.oneCell'=true:=by
 intro u hu
 obtain ⟨c,_,rfl⟩:=List.mem_map.1 hu
 rfl
theorem add_lit (b off j:Nat):(⟨b,off,none⟩:Addr).add j=⟨b,off+j,none⟩:=by
 unfold Addr.add
 split <;> simp_all
def Rd (w:World) (B sz:Nat) (A:Option Addr) (n:Nat) (xs:List Value):Prop:=
 xs.length=n*sz∧(0 < n→∃b off,A=some ⟨b,off,none⟩∧b < B∧∀j u,xs[j]?=some u→w.cell? ⟨b,off+j,none⟩=some u)
section
variable {w w' : World} {B B' sz n : Nat} {A : Option Addr} {xs : List Value}
theorem Rd.nil (w:World) (B sz:Nat) (A:Option Addr):Rd w B sz A 0 []:=⟨by simp,fun h=>absurd h (by omega)⟩
theorem Rd.get {k:Nat} (h:Rd w B 1 A n xs) (hk:k < n):∃b off u,A=some ⟨b,off,none⟩∧b < B∧xs[k]?=some u∧w.cell? ⟨b,off+k,none⟩=some u:=by
 obtain ⟨b,off,e,hb,hc⟩:=h.2 (by omega)
 have hl:k < xs.length:=by have:=h.1;omega
 exact ⟨b,off,xs[k],e,hb,List.getElem?_eq_getElem hl,hc k _ (List.getElem?_eq_getElem hl)⟩
theorem Rd.keep (h:Rd w B sz A n xs) (hk:∀p:Addr,p.block < B→w'.cell? p=w.cell? p):Rd w' B sz A n xs:=
 ⟨h.1,fun hn=>by
   obtain ⟨b,off,e,hb,hc⟩:=h.2 hn
   exact ⟨b,off,e,hb,fun j u hu=>(hk _ hb).trans (hc j u hu)⟩⟩
theorem Rd.mono (h:Rd w B sz A n xs) (hB:B≤B'):Rd w B' sz A n xs:=
 ⟨h.1,fun hn=>by
   obtain ⟨b,off,e,hb,hc⟩:=h.2 hn
   exact ⟨b,off,e,by omega,hc⟩⟩
theorem Rd.below (h:Rd w B sz A n xs) (hb:Below B w w'):Rd w' B sz A n xs:=h.keep fun _ hp=>hb.cell hp
theorem Rd.drew (h:Rd w B sz A n xs):Rd w.drew B sz A n xs:=h
theorem Rd.drewN (h:Rd w B sz A n xs) (k:Nat):Rd (w.drewN k) B sz A n xs:=h
theorem Rd.alloc (h:Rd w B sz A n xs) (hB:B≤w.heap.size) (o:Obj):Rd (w.alloc o) B sz A n xs:=h.below ((Below.refl _ _).alloc hB o)
theorem Rd.of_own {base:Nat} {e:TypeId} {c:Nat} (h:w.ownsRow base e sz (.slice A n c) n xs):Rd w w.heap.size sz A n xs:=by
 refine ⟨h.1,fun hn=>?_⟩
 obtain ⟨g,cap,hv,_,hlt⟩:=h.form hn
 have hA:A=some ⟨g,0,none⟩:=by injection hv
 subst hA
 refine ⟨g,0,rfl,hlt,fun j u hu=>?_⟩
 have:=h.cells (g:=g) rfl j u hu
 rwa [add_lit] at this
def cutA (A:Option Addr) (c k sz:Nat):Option Addr:=if c=k then A else A.map (·.add (k*sz))
theorem Rd.cut (h:Rd w B sz A n xs) {k cap:Nat} (hk:k≤n) (hc:n≤cap):Rd w B sz (cutA A cap k sz) (n - k) (xs.drop (k*sz)):=by
 refine ⟨by rw [List.length_drop,h.1,Nat.sub_mul],fun hn=>?_⟩
 obtain ⟨b,off,rfl,hb,hcell⟩:=h.2 (by omega)
 rw [cutA,if_neg (by omega)]
 refine ⟨b,off+k*sz,by simp [add_lit],hb,fun j u hu=>?_⟩
 rw [Nat.add_assoc]
 exact hcell _ u (by rw [←hu,List.getElem?_drop])
theorem Rd.cut_hi (h:Rd w B sz A n xs) {k:Nat} (hk:k≤n):Rd w B sz A k (xs.take (k*sz)):=by
 have hle:k*sz≤n*sz:=Nat.mul_le_mul_right _ hk
 refine ⟨by rw [List.length_take,h.1];omega,fun hn=>?_⟩
 obtain ⟨b,off,rfl,hb,hcell⟩:=h.2 (by omega)
 refine ⟨b,off,rfl,hb,fun j u hu=>hcell j u ?_⟩
 rw [List.getElem?_take] at hu
 split at hu
 · exact hu
 · cases hu
theorem Rd.cut_hi0 (h:Rd w B sz A n xs) {k cap:Nat} (hk:k≤n):Rd w B sz (cutA A cap 0 sz) k (xs.take (k*sz)):=by
 have h1:=h.cut_hi hk
 refine ⟨h1.1,fun hn=>?_⟩
 obtain ⟨b,off,rfl,hb,hc⟩:=h1.2 hn
 refine ⟨b,off,?_,hb,hc⟩
 unfold cutA
 split <;> simp [add_lit]
end
section
variable {P : Program} (t e : TypeId) (sz : Nat) (ht : P.underlying t = some (.slice e)) (hs : ∀ w, (sizeOf e).run P w = .ok sz w)
include ht hs
theorem run_cut_lo (A:Option Addr) (n c k:Nat) (hk:k≤n) (w:World):
 (Instr.sliceAt t (.slice A n c) (some (.int .i64 (k:Int))) none none).run P w=.ok (.slice (cutA A c k sz) (n - k) (c - k)) w:=by
 have he:P.elem t=e:=by simp [Program.elem,ht]
 have ht':P.underlying t=some (.slice (P.elem t)):=by rw [he];exact ht
 rw [run_sliceAt_slice (h:=ht'),run_slice_l (ht:=ht') (h0:=by omega) (h1:=by omega),he,hs]
 simp [Result.andThen,sliced,cutA]
theorem run_cut_hi (A:Option Addr) (n c k:Nat) (hk:k≤c) (w:World):
 (Instr.sliceAt t (.slice A n c) none (some (.int .i64 (k:Int))) none).run P w=.ok (.slice (cutA A c 0 sz) k c) w:=by
 have he:P.elem t=e:=by simp [Program.elem,ht]
 have ht':P.underlying t=some (.slice (P.elem t)):=by rw [he];exact ht
 rw [run_sliceAt_slice (h:=ht'),run_slice_h (ht:=ht') (h0:=by omega) (h2:=by omega),he,hs]
 simp [Result.andThen,sliced,cutA]
theorem run_cut_lohi (A:Option Addr) (n c k h:Nat) (hk:k≤h) (hh:h≤c) (w:World):
 (Instr.sliceAt t (.slice A n c) (some (.int .i64 (k:Int))) (some (.int .i64 (h:Int))) none).run P w=.ok (.slice (cutA A c k sz) (h - k) (c - k)) w:=by
 have he:P.elem t=e:=by simp [Program.elem,ht]
 have ht':P.underlying t=some (.slice (P.elem t)):=by rw [he];exact ht
 rw [run_sliceAt_slice (h:=ht'),run_slice_lh (ht:=ht') (h0:=by omega) (h1:=by omega) (h2:=by omega),he,hs]
 simp [Result.andThen,sliced,cutA]
end
theorem own_shape {w:World} {base:Nat} {e:TypeId} {sz:Nat} {v:Value} {n:Nat} {xs:List Value} (h:w.ownsRow base e sz v n xs):
 ∃A c,v=.slice A n c∧n≤c∧(∀a,A=some a→base≤a.block∧a.block < w.heap.size):=by
 rcases h.2 with ⟨rfl,rfl⟩|⟨g,cap,cur,rfl,hb,hg,hn,_⟩
 · exact ⟨none,0,rfl,Nat.le_refl _,fun a h=>by cases h⟩
 · exact ⟨_,cap,rfl,hn,fun a h=>by cases h;exact ⟨hb,(Array.getElem?_eq_some_iff.1 hg).1⟩⟩
def Bk (w:World) (g:Nat) (t:TypeId) (cs:Array Value):Prop:=w.heap[g]?=some (.cells cs t (0,0))
section
variable {w w' : World} {g : Nat} {t : TypeId} {cs : Array Value}
theorem Bk.lt (h:Bk w g t cs):g < w.heap.size:=lt_of_block h
theorem Bk.cell (h:Bk w g t cs) (i:Nat):w.cell? ⟨g,i,none⟩=cs[i]?:=cell_of_row w g i cs t (0,0) h
theorem Bk.frozen (h:Bk w g t cs) (i:Nat):w.frozen? ⟨g,i,none⟩=false:=frozen_of_row w g i cs t h
theorem Bk.new (w:World) (t:TypeId) (cs:Array Value):Bk (w.alloc (.cells cs t)) w.heap.size t cs:=heap_alloc_new w _
theorem Bk.drew (h:Bk w g t cs):Bk w.drew g t cs:=h
theorem Bk.drewN (h:Bk w g t cs) (n:Nat):Bk (w.drewN n) g t cs:=h
theorem Bk.alloc (h:Bk w g t cs) (o:Obj):Bk (w.alloc o) g t cs:=(Below.heap_alloc w o g h.lt).trans h
theorem Bk.set (h:Bk w g t cs) (i:Nat) (u:Value):Bk (w.setCell ⟨g,i,none⟩ u) g t (cs.setIfInBounds i u):=heap_setCell_same w g i cs t u h
theorem Bk.far (h:Bk w g t cs) {p:Addr} (hp:g≠p.block) (u:Value):Bk (w.setCell p u) g t cs:=(heap_setCell_other w p g u hp).trans h
theorem Bk.below {B:Nat} (h:Bk w g t cs) (hb:Below B w w') (hg:g < B):Bk w' g t cs:=(hb.block g hg).trans h
theorem Bk.grown {row:Option Nat} (h:Bk w g t cs) (hb:w.grownBy w' row) (hg:some g≠row):Bk w' g t cs:=(hb.block g h.lt hg).trans h
theorem Bk.ne {g':Nat} {t':TypeId} {cs':Array Value} (h:Bk w g t cs) (h':Bk w g' t' cs') (hne:t≠t'):g≠g':=by
 rintro rfl
 unfold Bk at h h'
 rw [h] at h'
 injection h' with h'
 injection h' with _ ht
 exact hne ht
end
structure Keep (F:Nat→Prop) (w w':World):Prop where
 os:w'.os=w.os
 tape:w'.tape=w.tape
 output:w'.output=w.output
 size:w.heap.size≤w'.heap.size
 block:∀k,k < w.heap.size→¬F k→w'.heap[k]?=w.heap[k]?
section
variable {F G : Nat → Prop} {w w1 w' : World}
theorem Keep.refl (F:Nat→Prop) (w:World):Keep F w w:=⟨rfl,rfl,rfl,Nat.le_refl _,fun _ _ _=>rfl⟩
theorem Keep.trans (h:Keep F w w1) (k:Keep F w1 w'):Keep F w w':=
 ⟨k.os.trans h.os,k.tape.trans h.tape,k.output.trans h.output,Nat.le_trans h.size k.size,fun i hi hn=>(k.block i (Nat.lt_of_lt_of_le hi h.size) hn).trans (h.block i hi hn)⟩
theorem Keep.trans' (h:Keep F w w1) (k:Keep G w1 w') (hg:∀b,b < w.heap.size→G b→F b):Keep F w w':=
 ⟨k.os.trans h.os,k.tape.trans h.tape,k.output.trans h.output,Nat.le_trans h.size k.size,fun i hi hn=>(k.block i (Nat.lt_of_lt_of_le hi h.size) (fun g=>hn (hg i hi g))).trans (h.block i hi hn)⟩
theorem Keep.mono (h:Keep F w w') (hf:∀b,b < w.heap.size→F b→G b):Keep G w w':=⟨h.os,h.tape,h.output,h.size,fun i hi hn=>h.block i hi (fun f=>hn (hf i hi f))⟩
theorem Keep.of_below (h:Below w.heap.size w w'):Keep F w w':=⟨h.os,h.tape,h.output,h.size,fun i hi _=>h.block i hi⟩
theorem Keep.to_below (h:Keep F w w') {B:Nat} (hB:B≤w.heap.size) (hf:∀b,b < B→¬F b):Below B w w':=⟨h.os,h.tape,h.output,h.size,fun i hi=>h.block i (by omega) (hf i hi)⟩
theorem Keep.setCell (h:Keep F w w1) {p:Addr} (hp:F p.block∨w.heap.size≤p.block) (u:Value):Keep F w (w1.setCell p u):=
 ⟨h.os,h.tape,h.output,by simpa [World.setCell] using h.size,fun i hi hn=>(heap_setCell_other w1 p i u (by
  rintro rfl
  rcases hp with hp | hp
  · exact hn hp
  · omega)).trans (h.block i hi hn)⟩
theorem Keep.alloc (h:Keep F w w1) (o:Obj):Keep F w (w1.alloc o):=
 ⟨h.os,h.tape,h.output,Nat.le_trans h.size (by simp),fun i hi hn=>(Below.heap_alloc w1 o i (Nat.lt_of_lt_of_le hi h.size)).trans (h.block i hi hn)⟩
theorem Keep.drew (h:Keep F w w1):Keep F w w1.drew:=⟨h.os,h.tape,h.output,h.size,h.block⟩
theorem Keep.drewN (h:Keep F w w1) (n:Nat):Keep F w (w1.drewN n):=⟨h.os,h.tape,h.output,h.size,h.block⟩
theorem Keep.grown (h:Keep F w w1) {row:Option Nat} (hg:w1.grownBy w' row) (hr:∀k,row=some k→F k∨w.heap.size≤k):Keep F w w':=
 ⟨hg.os.trans h.os,hg.tape.trans h.tape,hg.output.trans h.output,Nat.le_trans h.size hg.size,fun i hi hn=>
  (hg.block i (Nat.lt_of_lt_of_le hi h.size) (fun e=>by rcases hr i e.symm with f | f;exact hn f;omega)).trans (h.block i hi hn)⟩
theorem Keep.cell (h:Keep F w w') {p:Addr} (hp:p.block < w.heap.size) (hn:¬F p.block):w'.cell? p=w.cell? p:=World.cell?_of_block (h.block p.block hp hn)
theorem Keep.bk {g:Nat} {t:TypeId} {cs:Array Value} (h:Keep F w w') (hb:Bk w g t cs) (hn:¬F g):Bk w' g t cs:=(h.block g hb.lt hn).trans hb
theorem Keep.rd {B sz n:Nat} {A:Option Addr} {xs:List Value} (h:Keep F w w') (hr:Rd w B sz A n xs) (hB:B≤w.heap.size) (hn:∀b,b < B→¬F b):Rd w' B sz A n xs:=
 hr.keep fun p hp=>h.cell (by omega) (hn _ hp)
end
section
variable {P : Program} (w : World)
theorem run_append_nilsrc (base:Nat) (t ty e:TypeId) (i:TypeInfo) (sz:Nat) (ht:P.underlying t=some (.slice e)) (hi:P.info? e=some i)
 (v:Value) (n:Nat) (xs:List Value) (hown:w.ownsRow base e sz v n xs) (c:Nat):(Builtin.append_ #[t,t] ty #[v,.slice none 0 c]).run P w=.ok v w:=by
 rcases hown.2 with ⟨rfl,rfl⟩|⟨g,cap,cur,rfl,_,_,hnc,_⟩
 · simp [Builtin.append_,run_underlying ht,sizeOf,typeInfo,hi,Builtin.lenOf,Builtin.firstCells]
 · simp [Builtin.append_,run_underlying ht,sizeOf,typeInfo,hi,Builtin.lenOf,Builtin.firstCells,hnc,storeCells]
theorem run_append_rd (base:Nat) (t ty e:TypeId) (i:TypeInfo) (z:Value) (sz bytes:Nat) (ht:P.underlying t=some (.slice e)) (hi:P.info? e=some i) (hz:i.zero=some z)
 (hsize:i.size=sz) (hby:i.bytes=bytes) (hzs:z.cells.size=sz) (hsz:0 < sz)
 (v:Value) (n:Nat) (xs:List Value) (hown:w.ownsRow base e sz v n xs)
 (B:Nat) (A:Option Addr) (m c:Nat) (news:List Value) (hr:Rd w B sz A m news) (h1:∀u∈news,u.oneCell'=true)
 (h63:n+m≤maxLen) (hbytes:(n+m)*bytes≤140737488355328) (hbase:base≤w.heap.size):
 ∃v' w',(Builtin.append_ #[t,t] ty #[v,.slice A m c]).run P w=.ok v' w'∧w'.ownsRow base e sz v' (n+m) (xs++news)∧w.grownBy w' v.ownBlock∧
  (v'.ownBlock=v.ownBlock∨v'.ownBlock=some w.heap.size):=by
 rcases A with _ | ad
 · have hm:m=0:=by
    rcases Nat.eq_zero_or_pos m with h0 | h0
    · exact h0
    · obtain ⟨_,_,h,_⟩:=hr.2 h0
      cases h
   subst hm
   have hn:news= []:=List.eq_nil_of_length_eq_zero (by simpa using hr.1)
   subst hn
   exact ⟨v,w,run_append_nilsrc w base t ty e i sz ht hi v n xs hown c,by simpa using hown,World.grownBy.refl w _,.inl rfl⟩
 · have hcells:∀j u,news[j]?=some u→w.cell? (ad.add j)=some u:=by
    intro j u hu
    rcases Nat.eq_zero_or_pos m with h0 | h0
    · subst h0
      have hn:news= []:=List.eq_nil_of_length_eq_zero (by simpa using hr.1)
      subst hn
      simp at hu
    · obtain ⟨b,off,h,_,hc⟩:=hr.2 h0
      injection h with h
      subst h
      rw [add_lit]
      exact hc j u hu
   obtain ⟨v',w',hrun,h2,h3,_,h5⟩:=run_append_own_at (P:=P) w base t ty e i z sz bytes ht hi hz hsize hby hzs hsz v n xs hown ad m c news hr.1 hcells h1 h63 hbytes hbase
   exact ⟨v',w',hrun,h2,h3,h5⟩
theorem wp_append_rd {o:Oper} {a:Act} {K:Act→World→Prop} {Q:Exit→Act→World→Prop} (s x:Operand) (t:TypeId)
 (ho:o.op=.call { callee:=.builtin .append,args:=#[s,x],argTypes:=#[t,t] })
 (base:Nat) (e:TypeId) (i:TypeInfo) (z:Value) (sz bytes:Nat) (ht:P.underlying t=some (.slice e)) (hi:P.info? e=some i) (hz:i.zero=some z)
 (hsize:i.size=sz) (hby:i.bytes=bytes) (hzs:z.cells.size=sz) (hsz:0 < sz)
 (v:Value) (n:Nat) (xs:List Value) (hs:a.eval s=v) (hown:w.ownsRow base e sz v n xs)
 (B:Nat) (A:Option Addr) (m c:Nat) (news:List Value) (hx:a.eval x=.slice A m c) (hr:Rd w B sz A m news) (h1:∀u∈news,u.oneCell'=true)
 (h63:n+m≤maxLen) (hbytes:(n+m)*bytes≤140737488355328) (hbase:base≤w.heap.size)
 (h:∀v' w',w'.ownsRow base e sz v' (n+m) (xs++news)→w.grownBy w' v.ownBlock→(v'.ownBlock=v.ownBlock∨v'.ownBlock=some w.heap.size)→K (a.put o.dst v') w'):o.wp P a w K Q:=by
 obtain ⟨v',w',hrun,h2,h3,h4⟩:=run_append_rd (P:=P) w base t o.type e i z sz bytes ht hi hz hsize hby hzs hsz v n xs hown B A m c news hr h1 h63 hbytes hbase
 unfold Oper.wp execOp
 simp only [ho,resolve,invoke,builtin,Sem.run_bind,Sem.run_pure,Result.andThen_ok,List.map_toArray,List.map_cons,List.map_nil,hs,hx,hrun]
 exact h v' w' h2 h3 h4
theorem wpList_append_rd {ops:Array Oper} {rest:List Oper} {o:Oper} {a:Act} {Q:Exit→Act→World→Prop} (hgd:o.guard=none) (s x:Operand) (t:TypeId)
 (ho:o.op=.call { callee:=.builtin .append,args:=#[s,x],argTypes:=#[t,t] })
 (base:Nat) (e:TypeId) (i:TypeInfo) (z:Value) (sz bytes:Nat) (ht:P.underlying t=some (.slice e)) (hi:P.info? e=some i) (hz:i.zero=some z)
 (hsize:i.size=sz) (hby:i.bytes=bytes) (hzs:z.cells.size=sz) (hsz:0 < sz)
 (v:Value) (n:Nat) (xs:List Value) (hs:a.eval s=v) (hown:w.ownsRow base e sz v n xs)
 (B:Nat) (A:Option Addr) (m c:Nat) (news:List Value) (hx:a.eval x=.slice A m c) (hr:Rd w B sz A m news) (h1:∀u∈news,u.oneCell'=true)
 (h63:n+m≤maxLen) (hbytes:(n+m)*bytes≤140737488355328) (hbase:base≤w.heap.size)
 (h:∀v' w',w'.ownsRow base e sz v' (n+m) (xs++news)→w.grownBy w' v.ownBlock→(v'.ownBlock=v.ownBlock∨v'.ownBlock=some w.heap.size)→wpList P ops Q rest (a.put o.dst v') w'):wpList P ops Q (o::rest) a w:=
 wpList_plain hgd fun _ hK=>wp_append_rd w s x t ho base e i z sz bytes ht hi hz hsize hby hzs hsz v n xs hs hown B A m c news hx hr h1 h63 hbytes hbase fun v' w' h2 h3 h4=>hK _ _ (h v' w' h2 h3 h4)
end
theorem Rd.new_ (w:World) (e:TypeId) (sz:Nat) (cs:Array Value) (hs:cs.size=sz):Rd (w.alloc (.cells cs e)) (w.heap.size+1) sz (some ⟨w.heap.size,0,none⟩) 1 cs.toList:=by
 refine ⟨by simp [hs],fun _=>⟨_,0,rfl,by omega,fun j u hu=>?_⟩⟩
 rw [(Bk.new w e cs).cell]
 simpa using hu
theorem Rd.made (w:World) (e:TypeId) (sz n:Nat) (cs:Array Value) (hs:cs.size=n*sz):Rd (w.alloc (.cells cs e)) (w.alloc (.cells cs e)).heap.size sz (some ⟨w.heap.size,0,none⟩) n cs.toList:=by
 refine ⟨by simp [hs],fun _=>⟨_,0,rfl,by simp,fun j u hu=>?_⟩⟩
 rw [(Bk.new w e cs).cell]
 simpa using hu
theorem Rd.made' (w:World) (e:TypeId) (sz n:Nat) (cs:Array Value) (g:Nat) (hs:cs.size=n*sz) (hg:g=w.heap.size):Rd (w.alloc (.cells cs e)) (w.alloc (.cells cs e)).heap.size sz (some ⟨g,0,none⟩) n cs.toList:=by
 subst hg
 exact Rd.made w e sz n cs hs
structure Made (w:World) (B:Nat) (e:TypeId) (sz:Nat) (A:Option Addr) (n c:Nat) (xs:List Value):Prop where
 own:w.ownsRow B e sz (.slice A n c) n xs
 rd:Rd w w.heap.size sz A n xs
 cap:n≤c
 max:c≤maxLen
theorem made_of_own {w:World} {B:Nat} {e:TypeId} {sz:Nat} {v:Value} {n:Nat} {xs:List Value} (h:w.ownsRow B e sz v n xs):∃A c,v=.slice A n c∧Made w B e sz A n c xs:=by
 rcases h.2 with ⟨rfl,rfl⟩|⟨g,cap,cur,rfl,hb,hg,hn,hm,_⟩
 · exact ⟨none,0,rfl,h,Rd.of_own h,Nat.le_refl _,Nat.zero_le _⟩
 · exact ⟨_,cap,rfl,h,Rd.of_own h,hn,hm⟩
theorem Made.below {w w':World} {B:Nat} {e:TypeId} {sz:Nat} {A:Option Addr} {n c:Nat} {xs:List Value} (h:Made w B e sz A n c xs) (hb:Below w.heap.size w w'):Made w' B e sz A n c xs:=
 ⟨h.own.kept (row:=none) ⟨hb.os,hb.tape,hb.output,hb.size,fun k hk _=>hb.block k hk⟩ (by cases A <;> simp [Value.ownBlock]),(h.rd.below hb).mono hb.size,h.cap,h.max⟩
theorem Made.len {w:World} {B:Nat} {e:TypeId} {A:Option Addr} {n c:Nat} {xs:List Value} (h:Made w B e 1 A n c xs):xs.length=n:=by have:=h.rd.1;omega
theorem own_empty (w:World) (e:TypeId) (sz:Nat):(w.alloc (.cells #[] e)).ownsRow w.heap.size e sz (.slice (some ⟨w.heap.size,0,none⟩) 0 0) 0 []:=
 World.ownsRow_made w #[] 0 (Nat.le_refl _) (Nat.zero_le _) (by simp)
theorem own_below {w w':World} {B:Nat} {e:TypeId} {sz n:Nat} {v:Value} {xs:List Value} (h:w.ownsRow B e sz v n xs) (hb:Below w.heap.size w w'):w'.ownsRow B e sz v n xs:=
 h.kept (row:=none) ⟨hb.os,hb.tape,hb.output,hb.size,fun k hk _=>hb.block k hk⟩ (by cases v.ownBlock <;> simp)
theorem own_bk_ne {w:World} {base:Nat} {e t:TypeId} {sz n g:Nat} {v:Value} {xs:List Value} {cs:Array Value} (h:w.ownsRow base e sz v n xs) (hg:Bk w g t cs) (hne:e≠t):some g≠v.ownBlock:=by
 rcases h.2 with ⟨rfl,_⟩|⟨g',cap,cur,rfl,_,hh,_⟩
 · simp [Value.ownBlock]
 · intro he
   have:g=g':=by simpa [Value.ownBlock] using he
   subst this
   exact Bk.ne (t:=e) hh hg hne rfl
theorem own_ne_own {w:World} {b1 b2:Nat} {e1 e2:TypeId} {s1 s2 n1 n2:Nat} {v1 v2:Value} {x1 x2:List Value} (h1:w.ownsRow b1 e1 s1 v1 n1 x1) (h2:w.ownsRow b2 e2 s2 v2 n2 x2) (hne:e2≠e1):v1.ownBlock=none∨v1.ownBlock≠v2.ownBlock:=by
 rcases h1.2 with ⟨rfl,_⟩|⟨g,cap,cur,rfl,_,hg,_⟩
 · exact .inl rfl
 · exact .inr (own_bk_ne h2 hg hne)
theorem own_mono {w:World} {B B':Nat} {e:TypeId} {sz n:Nat} {v:Value} {xs:List Value} (h:w.ownsRow B e sz v n xs) (hB:B'≤B):w.ownsRow B' e sz v n xs:=by
 refine ⟨h.1,?_⟩
 rcases h.2 with h1 |⟨g,cap,cur,h1,h2,h3⟩
 · exact .inl h1
 · exact .inr ⟨g,cap,cur,h1,Nat.le_trans hB h2,h3⟩
theorem grown_of_alloc {w w':World} {o:Obj} {row:Option Nat} (h:(w.alloc o).grownBy w' row):w.grownBy w' row:=
 ⟨h.os,h.tape,h.output,Nat.le_trans (by simp) h.size,fun k hk hn=>(h.block k (by simp;omega) hn).trans (Below.heap_alloc w o k hk)⟩
theorem wpList_push {P:Program} {w:World} {ops:Array Oper} {rest:List Oper} {o:Oper} {a:Act} {Q:Exit→Act→World→Prop} (cs:Array Value) (hgd:o.guard=none) (s x:Operand) (t:TypeId)
 (ho:o.op=.call { callee:=.builtin .append,args:=#[s,x],argTypes:=#[t,t] })
 (base:Nat) (e:TypeId) (i:TypeInfo) (z:Value) (sz bytes:Nat) (ht:P.underlying t=some (.slice e)) (hi:P.info? e=some i) (hz:i.zero=some z)
 (hsize:i.size=sz) (hby:i.bytes=bytes) (hzs:z.cells.size=sz) (hsz:0 < sz)
 (v:Value) (n:Nat) (xs:List Value) (hs:a.eval s=v) (hown:w.ownsRow base e sz v n xs)
 (hx:a.eval x=.slice (some ⟨w.heap.size,0,none⟩) 1 1) (hcs:cs.size=sz) (h1:∀u∈cs.toList,u.oneCell'=true)
 (h63:n+1≤maxLen) (hbytes:(n+1)*bytes≤140737488355328) (hbase:base≤w.heap.size)
 (h:∀v' w',w'.ownsRow base e sz v' (n+1) (xs++cs.toList)→w.grownBy w' v.ownBlock→w.heap.size < w'.heap.size→(v'.ownBlock=v.ownBlock∨v'.ownBlock=some (w.heap.size+1))→wpList P ops Q rest (a.put o.dst v') w'):wpList P ops Q (o::rest) a (w.alloc (.cells cs e)):=
 wpList_append_rd _ hgd s x t ho base e i z sz bytes ht hi hz hsize hby hzs hsz v n xs hs (hown.alloc _) _ _ 1 1 cs.toList hx (Rd.new_ w e sz cs hcs) h1 h63 hbytes (by simp;omega)
  fun v' w' h2 h3 h4=>h v' w' h2 (grown_of_alloc h3) (by have:=h3.size;simp at this;omega) (by simpa using h4)
theorem run_str_idx {P:Program} (t:TypeId) (h:P.underlying t=some .string) (s:ByteArray) (j:Nat) (hj:j < s.size) (W:World):
 (Instr.index t (.string s) (.int .i64 (j:Int))).run P W=.ok (.int .u8 ((s[j]'hj).toNat:Int)) W:=by
 rw [run_index_string (h:=h),dif_pos (by omega)]
 rfl
theorem run_str_rd {P:Program} {w:World} {B n c:Nat} {A:Option Addr} {l:List UInt8} (src dst e:TypeId) (hs:P.underlying src=some (.slice e)) (he:P.underlying e=some (.int .u8)) (hd:P.underlying dst=some .string)
 (hr:Rd w B 1 A n (l.map bv)):(convert src dst (.slice A n c)).run P w=.ok (.string ⟨l.toArray⟩) w:=by
 have hn:l.length=n:=by simpa using hr.1
 subst hn
 rcases Nat.eq_zero_or_pos l.length with h0 | h0
 · have:l= []:=List.eq_nil_of_length_eq_zero h0
   subst this
   have hl:=run_loadCells_list (P:=P) w (A.getD ⟨0,0,none⟩) [] (fun j v hj=>by simp at hj)
   rcases A with _ | a
   · exact run_convert_bytes_nil w src e hs he _ _ dst hd
   · exact run_convert_bytes_back w src dst e a c [] hs he hd (fun j hj=>by simp at hj)
 · obtain ⟨b,off,rfl,_,hc⟩:=hr.2 h0
   refine run_convert_bytes_back w src dst e _ c l hs he hd fun j hj=>?_
   rw [add_lit]
   exact hc j _ (by rw [List.getElem?_map,List.getElem?_eq_getElem hj];rfl)
theorem quiet_left {P:Program} {f:FuncId} {args:Array Value} {w:World} {n:Nat} {v:Value}
 (h:Calls P f args (w.drewN n) fun e w'=>e=.returned v∧w.drewN n=w'):Calls P f args (w.drewN n) fun e w''=>e=.returned v∧∃m,w''=w.drewN m:=
 h.mono fun _ _ ⟨he,hm⟩=>⟨he,n,hm.symm⟩
theorem below_grown {B:Nat} {w0 w w':World} {e:TypeId} {sz n:Nat} {v:Value} {xs:List Value} (h:Below B w0 w) (ho:w.ownsRow B e sz v n xs) (hg:w.grownBy w' v.ownBlock) (hB:B≤w.heap.size):Below B w0 w':=
 h.grown hg hB fun k hk=>(ho.lt k hk).1
end Go.Proofs.YtipaccakmndkgaaGreatDoor
namespace Go.Proofs.YtipaccakmndkgaaGreatDoor
def ones (x n:Nat):Nat:=(List.range n).countP (fun i=>x.testBit i)
theorem ones_zero (x:Nat):ones x 0=0:=rfl
theorem ones_succ (x n:Nat):ones x (n+1)=ones x n+if x.testBit n then 1 else 0:=by
 unfold ones
 rw [List.range_succ,List.countP_append,List.countP_singleton]
theorem ones_le (x n:Nat):ones x n≤n:=by
 induction n with
 | zero=>exact Nat.le_refl _
 | succ n ih=>
   rw [ones_succ]
   split <;> omega
theorem ones_add (x n m:Nat):ones x (n+m)=ones x n+ones (x >>> n) m:=by
 induction m with
 | zero=>simp [ones_zero]
 | succ m ih=>
   rw [←Nat.add_assoc,ones_succ,ih,ones_succ,Nat.testBit_shiftRight]
   omega
theorem ones_mod (x n:Nat):ones (x % 2 ^ n) n=ones x n:=by
 unfold ones
 apply List.countP_congr
 intro i hi
 have:=List.mem_range.1 hi
 simp [Nat.testBit_mod_two_pow,this]
theorem lane_shift (A a M m s:Nat) (ha:a < 256) (hs:s≤8) (hm:m < 2 ^(8 - s)):((256*A+a)>>> s)&&&(256*M+m)=256*((A >>> s)&&& M)+((a >>> s)&&& m):=by
 apply Nat.eq_of_testBit_eq
 intro i
 have hm8:m < 2 ^ 8:=Nat.lt_of_lt_of_le hm (Nat.pow_le_pow_right (by decide) (by omega))
 have h1:((a >>> s)&&& m) < 2 ^ 8:=Nat.lt_of_le_of_lt Nat.and_le_right hm8
 rw [Nat.testBit_and,Nat.testBit_shiftRight,show (256:Nat)=2 ^ 8 by decide,Nat.testBit_two_pow_mul_add _ (by simpa using ha),Nat.testBit_two_pow_mul_add _ hm8,Nat.testBit_two_pow_mul_add _ h1]
 by_cases hi:i < 8
 · by_cases h2:s+i < 8
   · simp [hi,h2,Nat.testBit_and]
   · have h3:m.testBit i=false:=Nat.testBit_lt_two_pow (Nat.lt_of_lt_of_le hm (Nat.pow_le_pow_right (by decide) (by omega)))
     simp [hi,h2,Nat.testBit_and,h3]
 · have h2:¬(s+i < 8):=by omega
   have h3:s+i - 8=s+(i - 8):=by omega
   simp [hi,h2,h3,Nat.testBit_and]
def b1 (a:Nat):Nat:=(a >>> 1&&& 85)+(a&&& 85)
def b2 (a:Nat):Nat:=(a >>> 2&&& 51)+(a&&& 51)
theorem b_ok:∀a:Fin 256,b1 a.val < 256∧b2 (b1 a.val)/ 16≤4∧b2 (b1 a.val)% 16≤4∧b2 (b1 a.val)% 16+b2 (b1 a.val)/ 16=ones a.val 8:=by decide+kernel
theorem b_at (a:Nat) (h:a < 256):b1 a < 256∧b2 (b1 a)/ 16≤4∧b2 (b1 a)% 16≤4∧b2 (b1 a)% 16+b2 (b1 a)/ 16=ones a 8:=b_ok ⟨a,h⟩
def eight (a0 a1 a2 a3 a4 a5 a6 a7:Nat):Nat:=256*(256*(256*(256*(256*(256*(256*(256*0+a7)+a6)+a5)+a4)+a3)+a2)+a1)+a0
theorem eight_step (a0 a1 a2 a3 a4 a5 a6 a7 s m:Nat) (h0:a0 < 256) (h1:a1 < 256) (h2:a2 < 256) (h3:a3 < 256) (h4:a4 < 256) (h5:a5 < 256) (h6:a6 < 256) (h7:a7 < 256) (hs:s≤8) (hm:m < 2 ^(8 - s)):
 (eight a0 a1 a2 a3 a4 a5 a6 a7 >>> s)&&& eight m m m m m m m m=eight (a0 >>> s&&& m) (a1 >>> s&&& m) (a2 >>> s&&& m) (a3 >>> s&&& m) (a4 >>> s&&& m) (a5 >>> s&&& m) (a6 >>> s&&& m) (a7 >>> s&&& m):=by
 unfold eight
 rw [lane_shift _ _ _ _ _ h0 hs hm,lane_shift _ _ _ _ _ h1 hs hm,lane_shift _ _ _ _ _ h2 hs hm,lane_shift _ _ _ _ _ h3 hs hm,lane_shift _ _ _ _ _ h4 hs hm,lane_shift _ _ _ _ _ h5 hs hm,lane_shift _ _ _ _ _ h6 hs hm,lane_shift _ _ _ _ _ h7 hs hm]
 simp
theorem eight_and (a0 a1 a2 a3 a4 a5 a6 a7 m:Nat) (h0:a0 < 256) (h1:a1 < 256) (h2:a2 < 256) (h3:a3 < 256) (h4:a4 < 256) (h5:a5 < 256) (h6:a6 < 256) (h7:a7 < 256) (hm:m < 256):
 eight a0 a1 a2 a3 a4 a5 a6 a7&&& eight m m m m m m m m=eight (a0&&& m) (a1&&& m) (a2&&& m) (a3&&& m) (a4&&& m) (a5&&& m) (a6&&& m) (a7&&& m):=by
 have:=eight_step a0 a1 a2 a3 a4 a5 a6 a7 0 m h0 h1 h2 h3 h4 h5 h6 h7 (by omega) (by simpa using hm)
 simpa using this
theorem eight_add (a0 a1 a2 a3 a4 a5 a6 a7 c0 c1 c2 c3 c4 c5 c6 c7:Nat):
 eight a0 a1 a2 a3 a4 a5 a6 a7+eight c0 c1 c2 c3 c4 c5 c6 c7=eight (a0+c0) (a1+c1) (a2+c2) (a3+c3) (a4+c4) (a5+c5) (a6+c6) (a7+c7):=by
 unfold eight
 omega
def swar3 (x:Nat):Nat:=
 let y1:=(x >>> 1&&& 6148914691236517205)+(x&&& 6148914691236517205)
 let y2:=(y1 >>> 2&&& 3689348814741910323)+(y1&&& 3689348814741910323)
 (y2 >>> 4+y2)&&& 1085102592571150095
theorem eight_of (x:Nat) (h:x < 18446744073709551616):x=eight (x % 256) (x / 256 % 256) (x / 65536 % 256) (x / 16777216 % 256) (x / 4294967296 % 256) (x / 1099511627776 % 256) (x / 281474976710656 % 256) (x / 72057594037927936 % 256):=by
 unfold eight
 omega
theorem swar_eight (a0 a1 a2 a3 a4 a5 a6 a7:Nat) (h0:a0 < 256) (h1:a1 < 256) (h2:a2 < 256) (h3:a3 < 256) (h4:a4 < 256) (h5:a5 < 256) (h6:a6 < 256) (h7:a7 < 256):
 swar3 (eight a0 a1 a2 a3 a4 a5 a6 a7)=eight (ones a0 8) (ones a1 8) (ones a2 8) (ones a3 8) (ones a4 8) (ones a5 8) (ones a6 8) (ones a7 8):=by
 have m1:(6148914691236517205:Nat)=eight 85 85 85 85 85 85 85 85:=by decide
 have m2:(3689348814741910323:Nat)=eight 51 51 51 51 51 51 51 51:=by decide
 have m3:(1085102592571150095:Nat)=eight 15 15 15 15 15 15 15 15:=by decide
 obtain ⟨p0,q0,u0,r0⟩:=b_at a0 h0
 obtain ⟨p1,q1,u1,r1⟩:=b_at a1 h1
 obtain ⟨p2,q2,u2,r2⟩:=b_at a2 h2
 obtain ⟨p3,q3,u3,r3⟩:=b_at a3 h3
 obtain ⟨p4,q4,u4,r4⟩:=b_at a4 h4
 obtain ⟨p5,q5,u5,r5⟩:=b_at a5 h5
 obtain ⟨p6,q6,u6,r6⟩:=b_at a6 h6
 obtain ⟨p7,q7,u7,r7⟩:=b_at a7 h7
 have e1:(eight a0 a1 a2 a3 a4 a5 a6 a7 >>> 1&&& 6148914691236517205)+(eight a0 a1 a2 a3 a4 a5 a6 a7&&& 6148914691236517205)=eight (b1 a0) (b1 a1) (b1 a2) (b1 a3) (b1 a4) (b1 a5) (b1 a6) (b1 a7):=by
  rw [m1,eight_step _ _ _ _ _ _ _ _ 1 85 h0 h1 h2 h3 h4 h5 h6 h7 (by omega) (by decide),eight_and _ _ _ _ _ _ _ _ 85 h0 h1 h2 h3 h4 h5 h6 h7 (by omega),eight_add]
  rfl
 have e2:(eight (b1 a0) (b1 a1) (b1 a2) (b1 a3) (b1 a4) (b1 a5) (b1 a6) (b1 a7)>>> 2&&& 3689348814741910323)+(eight (b1 a0) (b1 a1) (b1 a2) (b1 a3) (b1 a4) (b1 a5) (b1 a6) (b1 a7)&&& 3689348814741910323)=eight (b2 (b1 a0)) (b2 (b1 a1)) (b2 (b1 a2)) (b2 (b1 a3)) (b2 (b1 a4)) (b2 (b1 a5)) (b2 (b1 a6)) (b2 (b1 a7)):=by
  rw [m2,eight_step _ _ _ _ _ _ _ _ 2 51 p0 p1 p2 p3 p4 p5 p6 p7 (by omega) (by decide),eight_and _ _ _ _ _ _ _ _ 51 p0 p1 p2 p3 p4 p5 p6 p7 (by omega),eight_add]
  rfl
 have e3:∀c0 c1 c2 c3 c4 c5 c6 c7:Nat,c0 / 16≤4→c0 % 16≤4→c1 / 16≤4→c1 % 16≤4→c2 / 16≤4→c2 % 16≤4→c3 / 16≤4→c3 % 16≤4→c4 / 16≤4→c4 % 16≤4→c5 / 16≤4→c5 % 16≤4→c6 / 16≤4→c6 % 16≤4→c7 / 16≤4→c7 % 16≤4→
  (eight c0 c1 c2 c3 c4 c5 c6 c7 >>> 4+eight c0 c1 c2 c3 c4 c5 c6 c7)&&& 1085102592571150095=eight (c0 % 16+c0 / 16) (c1 % 16+c1 / 16) (c2 % 16+c2 / 16) (c3 % 16+c3 / 16) (c4 % 16+c4 / 16) (c5 % 16+c5 / 16) (c6 % 16+c6 / 16) (c7 % 16+c7 / 16):=by
  intro c0 c1 c2 c3 c4 c5 c6 c7 x0 y0 x1 y1 x2 y2 x3 y3 x4 y4 x5 y5 x6 y6 x7 y7
  have d:eight c0 c1 c2 c3 c4 c5 c6 c7 >>> 4=eight (c0 / 16+16*(c1 % 16)) (c1 / 16+16*(c2 % 16)) (c2 / 16+16*(c3 % 16)) (c3 / 16+16*(c4 % 16)) (c4 / 16+16*(c5 % 16)) (c5 / 16+16*(c6 % 16)) (c6 / 16+16*(c7 % 16)) (c7 / 16):=by
   rw [Nat.shiftRight_eq_div_pow]
   unfold eight
   omega
  have m15:∀z:Nat,z&&& 15=z % 16:=fun z=>Nat.and_two_pow_sub_one_eq_mod z 4
  rw [d,eight_add,m3,eight_and _ _ _ _ _ _ _ _ 15 (by omega) (by omega) (by omega) (by omega) (by omega) (by omega) (by omega) (by omega) (by omega)]
  simp only [m15]
  congr 1 <;> omega
 unfold swar3
 simp only
 rw [e1,e2,e3 _ _ _ _ _ _ _ _ q0 u0 q1 u1 q2 u2 q3 u3 q4 u4 q5 u5 q6 u6 q7 u7,r0,r1,r2,r3,r4,r5,r6,r7]
theorem swar_sum (p0 p1 p2 p3 p4 p5 p6 p7:Nat) (h0:p0≤8) (h1:p1≤8) (h2:p2≤8) (h3:p3≤8) (h4:p4≤8) (h5:p5≤8) (h6:p6≤8) (h7:p7≤8) (x y z:Nat) (hx:x=eight p0 p1 p2 p3 p4 p5 p6 p7+eight p0 p1 p2 p3 p4 p5 p6 p7 / 256) (hy:y=x+x / 65536) (hz:z=y+y / 4294967296):
 z % 128=p0+p1+p2+p3+p4+p5+p6+p7∧z < 18446744073709551616:=by
 have d1:eight p0 p1 p2 p3 p4 p5 p6 p7 / 256=eight p1 p2 p3 p4 p5 p6 p7 0:=by unfold eight;omega
 rw [d1,eight_add] at hx
 have d2:x / 65536=eight (p2+p3) (p3+p4) (p4+p5) (p5+p6) (p6+p7) (p7+0) 0 0:=by rw [hx];unfold eight;omega
 rw [d2,hx,eight_add] at hy
 have d3:y / 4294967296=eight (p4+p5+(p6+p7)) (p5+p6+(p7+0)) (p6+p7+0) (p7+0+0) 0 0 0 0:=by rw [hy];unfold eight;omega
 rw [d3,hy,eight_add] at hz
 unfold eight at hz
 omega
theorem ones_eight (x:Nat):ones x 64=ones (x % 256) 8+ones (x / 256 % 256) 8+ones (x / 65536 % 256) 8+ones (x / 16777216 % 256) 8+ones (x / 4294967296 % 256) 8+ones (x / 1099511627776 % 256) 8+ones (x / 281474976710656 % 256) 8+ones (x / 72057594037927936 % 256) 8:=by
 have m:=fun y=>ones_mod y 8
 simp only [show (2:Nat)^ 8=256 by decide] at m
 simp only [m]
 rw [show (64:Nat)=8+(8+(8+(8+(8+(8+(8+8)))))) by decide]
 simp only [ones_add]
 simp only [Nat.shiftRight_eq_div_pow,Nat.div_div_eq_div_mul,show (2:Nat)^ 8=256 by decide,Nat.reduceMul]
 omega
theorem swar (x:Nat) (h:x < 18446744073709551616) (a b c:Nat) (ha:a=swar3 x+swar3 x / 256) (hb:b=a+a / 65536) (hc:c=b+b / 4294967296):c % 128=ones x 64∧c < 18446744073709551616:=by
 have e:=eight_of x h
 have s:=swar_eight (x % 256) (x / 256 % 256) (x / 65536 % 256) (x / 16777216 % 256) (x / 4294967296 % 256) (x / 1099511627776 % 256) (x / 281474976710656 % 256) (x / 72057594037927936 % 256) (by omega) (by omega) (by omega) (by omega) (by omega) (by omega) (by omega) (by omega)
 rw [←e] at s
 rw [s] at ha
 have l:=fun y=>ones_le y 8
 rw [ones_eight x]
 exact swar_sum _ _ _ _ _ _ _ _ (l _) (l _) (l _) (l _) (l _) (l _) (l _) (l _) a b c ha hb hc
def preB:Nat→Nat→List UInt8
 | 0,_=> []
 | f+1,n=>if n=0 then [] else preB f (n / 128)++ [UInt8.ofNat (n % 128+128)]
def encB (n:Nat):List UInt8:=preB 10 (n / 128)++ [UInt8.ofNat (n % 128)]
def encAll (l:List Nat):List UInt8:=l.flatMap encB
def getGo:List UInt8→Bool→Nat→Nat→Option (Nat×Nat)
 | [],_,_,_=>none
 | c::r,first,acc,pos=>
   if (first&&c.toNat==128)||decide (144115188075855871 < acc) then none
   else if c.toNat < 128 then some (acc*128+c.toNat % 128,pos+1) else getGo r false (acc*128+c.toNat % 128) (pos+1)
def getNB (l:List UInt8) (at_:Int):Nat×Int×Int:=
 if at_ < 0∨(l.length:Int) < at_ then (0,at_,2)
 else match getGo (l.drop at_.toNat) true 0 at_.toNat with
    | some (n,p)=>(n,p,0)
    | none=>(0,at_,4)
def fixN:Nat→Nat→List UInt8
 | 0,_=> []
 | k+1,n=>fixN k n++ [UInt8.ofNat (n / 256 ^ k % 256)]
def fixB (n:Nat):List UInt8:=fixN 4 n
def ofN (l:List UInt8) (a:Nat):Nat→Nat
 | 0=>0
 | k+1=>ofN l a k+(l[a+k]?.getD 0).toNat*256 ^ k
def ofB (l:List UInt8) (at_:Int):Nat×Int:=
 if at_ < 0∨(l.length:Int) < at_ then (0,2) else if (l.length:Int) - at_ < 4 then (0,4) else (ofN l at_.toNat 4,0)
theorem ofN_lt (l:List UInt8) (a:Nat) (k:Nat):ofN l a k < 256 ^ k:=by
 induction k with
 | zero=>simp [ofN]
 | succ k ih=>
   have:(l[a+k]?.getD 0).toNat < 256:=UInt8.toNat_lt _
   simp only [ofN,Nat.pow_succ]
   have h2:(l[a+k]?.getD 0).toNat*256 ^ k≤255*256 ^ k:=Nat.mul_le_mul_right _ (by omega)
   omega
theorem getGo_cons (c:UInt8) (r:List UInt8) (first:Bool) (acc pos:Nat):getGo (c::r) first acc pos=
 if (first&&c.toNat==128)||decide (144115188075855871 < acc) then none
 else if c.toNat < 128 then some (acc*128+c.toNat % 128,pos+1) else getGo r false (acc*128+c.toNat % 128) (pos+1):=by conv=>lhs;rw [getGo]
theorem preB_zero (f:Nat):preB f 0= []:=by cases f <;> simp [preB]
theorem preB_more (f:Nat):∀n,n < 128 ^ f→preB (f+1) n=preB f n:=by
 induction f with
 | zero=>intro n h;have:n=0:=by simpa using h
         subst this;simp [preB]
 | succ f ih=>
   intro n h
   by_cases h0:n=0
   · subst h0;simp [preB_zero]
   · rw [preB,if_neg h0,ih (n / 128) (by rw [Nat.div_lt_iff_lt_mul (by omega)];rw [Nat.pow_succ] at h;exact h)]
     conv=>rhs;rw [preB,if_neg h0]
theorem preB_step (n:Nat) (h0:n≠0) (h:n < 128 ^ 10):preB 10 n=preB 10 (n / 128)++ [UInt8.ofNat (n % 128+128)]:=by
 rw [preB_more 9 (n / 128) (by omega)]
 conv=>lhs;rw [preB,if_neg h0]
theorem preB_len (f:Nat):∀n,(preB f n).length≤f:=by
 induction f with
 | zero=>intro n;simp [preB]
 | succ f ih=>
   intro n
   unfold preB
   split
   · simp
   · have:=ih (n / 128);simp;omega
theorem encB_len (n:Nat):(encB n).length≤11:=by
 have:=preB_len 10 (n / 128)
 simp [encB];omega
theorem encAll_len (l:List Nat):(encAll l).length≤11*l.length:=by
 induction l with
 | nil=>simp [encAll]
 | cons a l ih=>
   have:=encB_len a
   simp [encAll] at ih⊢
   omega
theorem encAll_snoc (l:List Nat) (k:Nat) (n:Nat) (h:l[k]?=some n):encAll (l.take (k+1))=encAll (l.take k)++encB n:=by
 have hk:k < l.length:=(List.getElem?_eq_some_iff.1 h).1
 rw [List.take_succ_eq_append_getElem hk]
 have:l[k]=n:=(List.getElem?_eq_some_iff.1 h).2
 rw [this]
 simp [encAll,List.flatMap_append]
theorem mid_pos (n i j:Nat) (h:i+1≤j) (hg:j=0∨1≤n / 2 ^(7*j)):n / 2 ^(7*(i+1))≠0:=by
 have h1:1≤n / 2 ^(7*j):=by rcases hg with h0 | h0 <;> omega
 have h2:n / 2 ^(7*j)≤n / 2 ^(7*(i+1)):=Nat.div_le_div_left (Nat.pow_le_pow_right (by omega) (by omega)) (Nat.pow_pos (by omega))
 omega
theorem mid_lt (n i:Nat) (h:n < 18446744073709551616):n / 2 ^(7*(i+1)) < 128 ^ 9:=by
 have h2:n / 2 ^(7*(i+1))≤n / 2 ^ 7:=Nat.div_le_div_left (Nat.pow_le_pow_right (by omega) (by omega)) (Nat.pow_pos (by omega))
 omega
theorem div7 (n j:Nat):n / 2 ^(7*(j+1))=n / 2 ^(7*j)/ 128:=by
 rw [Nat.div_div_eq_div_mul,show 7*(j+1)=7*j+7 by omega,Nat.pow_add]
theorem shift_top (n j:Nat) (h:n < 18446744073709551616) (hj:j≤9) (hg:128≤n / 2 ^(7*j)):j+1≤9:=by
 by_cases h9:j=9
 · subst h9
   rw [Nat.le_div_iff_mul_le (by decide)] at hg
   omega
 · omega
theorem encAll_one (n:Nat):encAll [n]=encB n:=by simp [encAll]
end Go.Proofs.YtipaccakmndkgaaGreatDoor
namespace Go.Proofs.YtipaccakmndkgaaGreatDoor
open Go.ChangeShapes Go.WideShapes Go.ChangeAt Go.RowKit
theorem laidOut:laidOutB Tryz.prog=true:=by kernel_rfl
theorem own:ownKnob Tryz.prog.godebug=none:=by kernel_rfl
end Go.Proofs.YtipaccakmndkgaaGreatDoor
