/- The walk of sorted.Rows: the places where suffixes begin, sorted. Conditions: at most 200 bytes. -/
import Derived.Test.YtipaccakmndkgaaGreatDoorPsl13
import Derived.Test.YtipaccakmndkgaaGreatDoorShl
import Derived.Deep.LoopGhost
import Derived.StillTailTactics
import Derived.BigQuiet
import Derived.Laws.EntriesVeiled
set_option linter.unusedVariables false
set_option linter.unusedSimpArgs false
set_option maxRecDepth 100000
set_option maxHeartbeats 4000000
namespace Go.Proofs.YtipaccakmndkgaaGreatDoor
open Go.RowKit Go
open Go.Sort (SortedIn PermIn SWO Holds)
theorem run_ints (n:Nat) (hn:n≤1000000) (w:World):(Instr.makeSlice 22 (.int .i64 (n:Int)) (.int .i64 (n:Int))).run Tryz.prog w=.ok (.slice (some ⟨w.heap.size,0,none⟩) n n) (w.alloc (.cells (Array.replicate n (.int .i64 0)) 3)):=by
 obtain ⟨i0,hi0,hz0,hz1,hz2⟩:=info_parts int_info
 have:=run_make (P:=Tryz.prog) w 22 3 i0 (.int .i64 0) Tryz.underlying22 hi0 hz0 .i64 .i64 n n (by omega) (Int.le_refl _) (by rw [hz2];omega) (by omega)
 rw [this,hz1]
 have e:madeCells #[.int .i64 0] n=Array.replicate n (.int .i64 0):=by
  apply Array.ext'
  rw [toList_madeCells_one]
  simp
 simp only [Value.cells,Int.toNat_natCast,Nat.mul_one]
 rw [e]
def fillA (n k:Nat):Array Value:=((List.range n).map fun i=>Value.int .i64 (((if i < k then i else 0:Nat)):Int)).toArray
theorem fillA_size (n k:Nat):(fillA n k).size=n:=by simp [fillA]
theorem fillA_zero (n:Nat):fillA n 0=Array.replicate n (.int .i64 0):=by
 apply Array.ext
 · simp [fillA]
 · intro i h1 h2
   simp [fillA]
theorem fillA_step (n k:Nat) (h:k < n):(fillA n k).setIfInBounds k (.int .i64 (k:Int))=fillA n (k+1):=by
 apply Array.ext
 · simp [fillA]
 · intro i h1 h2
   rw [Array.getElem_setIfInBounds (by simpa [fillA] using h2)]
   by_cases e:k=i
   · subst e
     simp [fillA]
   · rw [if_neg e]
     simp only [fillA,List.getElem_toArray,List.getElem_map,List.getElem_range]
     by_cases h3:i < k
     · rw [if_pos h3,if_pos (by omega)]
     · rw [if_neg h3,if_neg (by omega)]
theorem fillA_end (m:Nat):fillA (m+1) (m+1)=(rows0 m).map (encF m):=by
 apply Array.ext
 · simp [fillA,rows0]
 · intro i h1 h2
   have hi:i < m+1:=by simpa [fillA] using h1
   simp [fillA,rows0,encF,hi]
theorem made_bk {w:World} {g:Nat} {e:TypeId} {cs:Array Value} {n B:Nat} (h:Bk w g e cs) (hB:B≤g) (hz:cs.size=n) (hn:n≤maxLen):Made w B e 1 (some ⟨g,0,none⟩) n n cs.toList:=by
 have ho:w.ownsRow B e 1 (.slice (some ⟨g,0,none⟩) n n) n cs.toList:=⟨by simp [hz],.inr ⟨g,n,cs,rfl,hB,h,Nat.le_refl _,hn,by omega,by rw [List.take_of_length_le (by simp [hz])]⟩⟩
 exact ⟨ho,Rd.of_own ho,Nat.le_refl _,hn⟩
theorem rows_sv {m:Nat} (d:Array (Fin (m+1))):(d.map (encF m)).toList=(d.toList.map (·.val)).map sv:=by
 simp [encF,sv]
theorem next_step {cs:Array Value} {f c:Nat→Nat} {k v:Nat} (h:∀j,j < k→cs[f j]?=some (.int .i64 ((c j:Nat):Int))) (hk:f k < cs.size) (hi:∀j,j < k→f j≠f k) (hv:c k=v) (j:Nat) (hj:j < k+1):(cs.setIfInBounds (f k) (.int .i64 (v:Int)))[f j]?=some (.int .i64 ((c j:Nat):Int)):=by
 by_cases e:j=k
 · subst e
   rw [Array.getElem?_setIfInBounds,if_pos rfl,if_pos hk,hv]
 · rw [Array.getElem?_setIfInBounds,if_neg (fun x=>hi j (by omega) x.symm)]
   exact h j (by omega)
structure RInv (B0:Nat) (w0:World) (m n:Nat) (l:List Nat) (gn gr gx:Nat) (wr:World) (gw g6 g7 c6 c7 wd:Nat) (d:Array (Fin (m+1))) (R:List Nat):Prop where
 wide:Bk wr gw 3 #[.int .i64 (wd:Int)]
 len:Bk wr gn 3 #[.int .i64 (n:Int)]
 box:Bk wr gr 22 #[.slice (some ⟨g6,0,none⟩) n c6]
 rank:∃cs:Array Value,Bk wr g6 3 cs∧n≤cs.size∧∀(j:Nat) u,(R.map sv)[j]?=some u→cs[j]?=some u
 next:∃cs:Array Value,Bk wr g7 3 cs∧n≤cs.size
 rows:Bk wr gx 3 (d.map (encF m))
 ok:RowsOk m d
 ap:gx≠gw∧gx≠gn∧gx≠g6∧gx≠g7∧g7≠gw∧g7≠gn∧g7≠g6∧g6≠gw∧g6≠gn
 lo:B0≤gx∧B0≤g6∧B0≤g7∧B0≤gr
 cap:n≤c6∧n≤c7
 rlen:R.length=n
 rle:∀r∈R,r≤1000
 rk:RankOk (aN l) (aN R) wd
 wd1:1≤wd
 wdn:wd≤n
 below:Below B0 w0 wr
structure SetT (B:Nat) (T:TypeId) (w w':World):Prop where
 below:Below B w w'
 other:∀b t cs,t≠T→Bk w b t cs→Bk w' b t cs
 one:∀b c,Bk w b T #[c]→∃c',Bk w' b T #[c']
theorem SetT.set {B:Nat} {T:TypeId} {w:World} {g:Nat} {c:Value} (h:Bk w g T #[c]) (hg:B≤g) (v:Value):SetT B T w (w.setCell ⟨g,0,none⟩ v):=by
 refine ⟨(Below.refl _ _).setCell hg _,fun b t cs ht hb=>?_,fun b c' hb=>?_⟩
 · exact hb.far (fun e=>ht (by subst e;exact (bk_inj hb h).1)) _
 · by_cases e:b=g
   · subst e
     exact ⟨v,hb.set 0 v⟩
   · exact ⟨c',hb.far (p:=⟨g,0,none⟩) e _⟩
section
variable {B0 : Nat} {w0 : World} {m n : Nat} {l : List Nat} {gn gr gx : Nat} {wr w' : World} {gw g6 g7 c6 c7 wd : Nat} {d d' : Array (Fin (m + 1))} {R : List Nat}
theorem rd_of_cells {w:World} {g n:Nat} {R:List Nat} (hl:R.length=n) (h:∃cs:Array Value,Bk w g 3 cs∧n≤cs.size∧∀(j:Nat) u,(R.map sv)[j]?=some u→cs[j]?=some u):Rd w w.heap.size 1 (some ⟨g,0,none⟩) n (R.map sv):=by
 obtain ⟨cs,h1,h2,h3⟩:=h
 refine ⟨by simp [hl],fun _=>⟨g,0,rfl,h1.lt,fun j u hu=>?_⟩⟩
 rw [Nat.zero_add,h1.cell]
 exact h3 j u hu
theorem RInv.ordk (h:RInv B0 w0 m n l gn gr gx wr gw g6 g7 c6 c7 wd d R) (k:Keep (fun b=>b=gx) wr w'):OrdAt w' gw gn gr wd n (some ⟨g6,0,none⟩) c6 R:=by
 obtain ⟨a1,a2,a3,a4,a5,a6,a7,a8,a9⟩:=h.ap
 obtain ⟨cs,h1,h2,h3⟩:=h.rank
 exact ⟨((k.bk h.wide a1.symm).cell 0).trans rfl,((k.bk h.len a2.symm).cell 0).trans rfl,((k.bk h.box (Bk.ne h.box h.rows (by decide))).cell 0).trans rfl,rd_of_cells h.rlen ⟨cs,k.bk h1 a3.symm,h2,h3⟩⟩
theorem RInv.keepx (h:RInv B0 w0 m n l gn gr gx wr gw g6 g7 c6 c7 wd d R) (k:Keep (fun b=>b=gx) wr w') (hx:Bk w' gx 3 (d'.map (encF m))) (ho:RowsOk m d'):RInv B0 w0 m n l gn gr gx w' gw g6 g7 c6 c7 wd d' R:=by
 obtain ⟨a1,a2,a3,a4,a5,a6,a7,a8,a9⟩:=h.ap
 obtain ⟨cs,h1,h2,h3⟩:=h.rank
 obtain ⟨cs7,h4,h5⟩:=h.next
 exact ⟨k.bk h.wide a1.symm,k.bk h.len a2.symm,k.bk h.box (Bk.ne h.box h.rows (by decide)),⟨cs,k.bk h1 a3.symm,h2,h3⟩,⟨cs7,k.bk h4 a4.symm,h5⟩,hx,ho,h.ap,h.lo,h.cap,h.rlen,h.rle,h.rk,h.wd1,h.wdn,
  h.below.trans (k.to_below (by have:=h.lo.1;have:=h.rows.lt;omega) (fun b hb e=>by have:=h.lo.1;omega))⟩
theorem RInv.keep7 (h:RInv B0 w0 m n l gn gr gx wr gw g6 g7 c6 c7 wd d R) (k:Keep (fun b=>b=g7) wr w') (h7:∃cs:Array Value,Bk w' g7 3 cs∧n≤cs.size):RInv B0 w0 m n l gn gr gx w' gw g6 g7 c6 c7 wd d R:=by
 obtain ⟨a1,a2,a3,a4,a5,a6,a7,a8,a9⟩:=h.ap
 obtain ⟨cs,h1,h2,h3⟩:=h.rank
 obtain ⟨cs7,h4,h5⟩:=h.next
 exact ⟨k.bk h.wide a5.symm,k.bk h.len a6.symm,k.bk h.box (Bk.ne h.box h4 (by decide)),⟨cs,k.bk h1 a7.symm,h2,h3⟩,h7,k.bk h.rows a4,h.ok,h.ap,h.lo,h.cap,h.rlen,h.rle,h.rk,h.wd1,h.wdn,
  h.below.trans (k.to_below (by have:=h.lo.1;have:=h.rows.lt;omega) (fun b hb e=>by have:=h.lo.2.2.1;omega))⟩
theorem RInv.grow (h:RInv B0 w0 m n l gn gr gx wr gw g6 g7 c6 c7 wd d R) (k:Below wr.heap.size wr w'):RInv B0 w0 m n l gn gr gx w' gw g6 g7 c6 c7 wd d R:=
 h.keep7 (Keep.of_below k) (by
  obtain ⟨cs7,h4,h5⟩:=h.next
  exact ⟨cs7,h4.below k h4.lt,h5⟩)
end
theorem SortedRows_any (A:Option Addr) (m c B:Nat) (t:List UInt8) (w:World) (hr:Rd w B 1 A m (t.map bv)) (hB:B≤w.heap.size) (hm:m≤200):
 Calls Tryz.prog 50 #[.slice A m c] w fun e w'=>∃rs A' c',IsSuf (symL t) rs∧e=.returned (.slice A' (m+1) c')∧Made w' w.heap.size 3 1 A' (m+1) c' (rs.map sv)∧Below w.heap.size w w':=by
 have htl:t.length=m:=by simpa using hr.1
 have Hr:=lhd hr
 have Htl:=lhd htl
 clear hr htl
 go_enter Tryz.func50,Tryz.ntmps50
 go_wp2_with fail
 obtain ⟨n,hn⟩:∃n,m+1=n:=⟨_,rfl⟩
 have hsa:=SymAll_any w.heap.size 0 A m c w.heap.size t (w.alloc (.cells #[.slice A m c] 23)) (Bk.new _ _ _) ((Hr.out.mono hB).alloc (Nat.le_refl _) _) (by simp) (by omega)
 rw [hn] at hsa
 have hn2:n≤201:=by omega
 have hn1:1≤n:=by omega
 have HN:=lhd hn
 clear hn
 refine hsa.mono ?_
 clear hsa
 rintro e w1 ⟨A1,c1,rfl,hm1,hb1⟩
 have hb1':=((Below.refl w.heap.size w).alloc (Nat.le_refl _) _).trans (hb1.mono (by simp))
 have Hm1:=lhd hm1
 have Hb1:=lhd hb1'
 clear hm1 hb1 hb1'
 go_wp2_with fail
 obtain ⟨gn,hgn⟩:∃g,w1.heap.size=g:=⟨_,rfl⟩
 have hbn:Bk (w1.alloc (.cells #[.int .i64 (n:Int)] 3)) gn 3 #[.int .i64 (n:Int)]:=hgn ▸ Bk.new _ _ _
 have hm2:=Hm1.out.below ((Below.refl _ _).alloc (Nat.le_refl _) (.cells #[.int .i64 (n:Int)] 3))
 have hb2:=Hb1.out.alloc Hb1.out.size (.cells #[.int .i64 (n:Int)] 3)
 have hR2:=hm2.rd
 have hge:w.heap.size≤gn:=hgn ▸ Hb1.out.size
 rw [hgn]
 generalize w1.alloc (.cells #[.int .i64 (n:Int)] 3)=W0 at hbn hm2 hb2 hR2⊢
 clear Hm1 Hb1 hgn
 have hcn:=hbn.cell 0
 have hzn:=hbn.lt
 have Hcn:Hid (W0.cell? ⟨gn,0,none⟩=some (.int .i64 (n:Int))):=lhd hcn
 have Hgn:=lhd hzn
 have HR1:=lhd hR2
 have HR2:=lhd hm2
 have HB2:=lhd hb2
 have HBN:=lhd hbn
 clear hcn hzn hR2 hm2 hb2 hbn
 refine wp_region_any (by kernel_rfl) ?_
 refine wpAny_link [18,19,20,21,22,23,6,5,7] [6,19,21,23] 8 (SetT W0.heap.size 22) (Below W0.heap.size W0) [k0 (is (.int .i64 (n:Int))),k0 (fun v w2=>∃g,v=.slice (some ⟨g,0,none⟩) n n∧W0.heap.size≤g∧Bk w2 g 3 (Array.replicate n (.int .i64 0))),k0 (is (.slice A1 n c1)),k0 (fun v w2=>∃A c,v=.slice A n c∧Made w2 W0.heap.size 3 1 A n c ((symL t).map sv)),k0 (is (.int .i64 (n:Int))),k0 (fun v w2=>∃g,v=.slice (some ⟨g,0,none⟩) n n∧W0.heap.size≤g∧Bk w2 g 3 (Array.replicate n (.int .i64 0))),k0 (fun v w2=>∃g c,v=.pointer (some ⟨g,0,none⟩)∧W0.heap.size≤g∧Bk w2 g 22 #[c]),kEq 19,kLk 6 21 (fun u v w2=>∃g,u=.pointer (some ⟨g,0,none⟩)∧W0.heap.size≤g∧Bk w2 g 22 #[v]),kEq 23] _ _ rfl (by kernel_rfl) (by kernel_rfl) ((Below.refl _ _).drew) (apart_none rfl) (fun w w' h k=>k.elim (fun k=>h.trans (k.mono h.size)) (fun k=>h.trans k.below)) (by repeat' (first | exact dep_k0 _ | exact dep_kEq _ | exact dep_kLk _ _ _ |(refine List.forall_mem_cons.2 ⟨?_,?_⟩)|(intro p hp;cases hp))) (by repeat' (first | exact stbq_is _ _ | exact stbq_any _ | exact stbq_kEq _ _ | exact stbq_k0 (fun _ _ _ ⟨g,h1,h2,h3⟩ k=>⟨g,h1,h2,h3.below k h3.lt⟩)| exact stbq_k0 (fun _ _ _ ⟨A,c,h1,h2⟩ k=>⟨A,c,h1,h2.below k⟩)| exact stbq_k0 (fun _ _ _ ⟨g,c,h1,h2,h3⟩ k=>⟨g,c,h1,h2,h3.below k h3.lt⟩)| exact stbq_k0 (fun _ _ _ _ ⟨g,h1,h2,h3⟩ k=>⟨g,h1,h2,h3.below k h3.lt⟩)| exact stbq_kLk (fun _ _ _ ⟨g,h1,h2,h3⟩ k=>⟨g,h1,h2,h3.below k h3.lt⟩)| exact stbq_kLk (fun _ _ _ ⟨A,c,h1,h2⟩ k=>⟨A,c,h1,h2.below k⟩)| exact stbq_kLk (fun _ _ _ ⟨g,c,h1,h2,h3⟩ k=>⟨g,c,h1,h2,h3.below k h3.lt⟩)| exact stbq_kLk (fun _ _ _ _ ⟨g,h1,h2,h3⟩ k=>⟨g,h1,h2,h3.below k h3.lt⟩)|(refine List.forall_mem_cons.2 ⟨?_,?_⟩)|(intro p hp;cases hp))) (by simp only [List.eraseIdx_cons_zero,List.eraseIdx_cons_succ,List.eraseIdx_nil];repeat' (first | exact stbq_is _ _ | exact stbq_any _ | exact stbq_kEq _ _ | exact stbq_k0 (fun _ _ _ ⟨g,h1,h2,h3⟩ k=>⟨g,h1,h2,k.other _ _ _ (by decide) h3⟩)| exact stbq_k0 (fun _ _ _ ⟨A,c,h1,h2⟩ k=>⟨A,c,h1,made_same h2 fun b cs hb=>k.other _ _ _ (by decide) hb⟩)| exact stbq_k0 (fun _ _ _ ⟨g,c,h1,h2,h3⟩ k=>let ⟨c',h4⟩:=k.one _ _ h3;⟨g,c',h1,h2,h4⟩)|(refine List.forall_mem_cons.2 ⟨?_,?_⟩)|(intro p hp;cases hp))) ?_ ?_
 · refine steps_of ?_
   refine steps_cons (step_onF rfl rfl fun ev _ hCA _ _ _ hold _ _ _ _ hK=>?_) ?_
   · obtain ⟨hS,hAp⟩:=hCA
     have e4:ev (.tmp 4)=.pointer (some ⟨gn,0,none⟩):=hold 4 (by kernel_rfl)
     clear hold
     have hcl:=(hS.cell (p:=⟨gn,0,none⟩) Hgn.out).trans Hcn.out
     go_simp
     exact hK _ _ (lstep_grow (Below.refl _ _) rfl rfl) rfl
   refine steps_cons (step_onF rfl rfl fun _ _ hCA _ _ _ hold hval _ _ _ hK=>?_) ?_
   · obtain ⟨hS,hAp⟩:=hCA
     have e18:_=_:=hval 0 18 (by kernel_rfl) rfl
     clear hold
     have kz:=run_ints n (by omega)
     go_simp
     exact hK _ _ (lstep_new ((Below.refl _ _).alloc (Nat.le_refl _) _) rfl (fun g hg=>by simp [blk?] at hg;subst hg;simp)) ⟨_,rfl,hS.size,Bk.new _ _ _⟩
   refine steps_cons (step_onF rfl rfl fun ev _ hCA _ _ _ hold _ _ _ _ hK=>?_) ?_
   · obtain ⟨hS,hAp⟩:=hCA
     have e3:ev (.tmp 3)=.slice A1 n c1:=hold 3 (by kernel_rfl)
     clear hold
     go_simp
     exact hK _ _ (lstep_grow (Below.refl _ _) rfl rfl) rfl
   refine steps_cons (step_onF rfl rfl fun _ _ hCA _ _ _ hold hval a _ _ hK=>?_) ?_
   · obtain ⟨hS,hAp⟩:=hCA
     have e20:_=_:=hval 2 20 (by kernel_rfl) rfl
     clear hold
     go_simp
     refine (CloneInts_any A1 n c1 W0.heap.size (symL t) _ (HR1.out.below hS) hS.size (by omega)).mono ?_
     rintro e w7 ⟨A',c',rfl,hm7,hb7⟩
     refine hK _ _ (lstep_new hb7 rfl (fun g hg=>?_)) ⟨A',c',rfl,hm7.mono hS.size⟩
     obtain ⟨_,_,_,_,hx⟩:=own_shape hm7.own
     rcases A' with _ | a
     · simp [blk?] at hg
     · obtain ⟨A9,c9,h9,_,h8⟩:=own_shape hm7.own;injection h9 with h9;have:=h8 a h9.symm;simp [blk?] at hg;subst hg;exact this
   refine steps_cons (step_onF rfl rfl fun ev _ hCA _ _ _ hold _ _ _ _ hK=>?_) ?_
   · obtain ⟨hS,hAp⟩:=hCA
     have e4:ev (.tmp 4)=.pointer (some ⟨gn,0,none⟩):=hold 4 (by kernel_rfl)
     clear hold
     have hcl:=(hS.cell (p:=⟨gn,0,none⟩) Hgn.out).trans Hcn.out
     go_simp
     exact hK _ _ (lstep_grow (Below.refl _ _) rfl rfl) rfl
   refine steps_cons (step_onF rfl rfl fun _ _ hCA _ _ _ hold hval _ _ _ hK=>?_) ?_
   · obtain ⟨hS,hAp⟩:=hCA
     have e22:_=_:=hval 4 22 (by kernel_rfl) rfl
     clear hold
     have kz:=run_ints n (by omega)
     go_simp
     exact hK _ _ (lstep_new ((Below.refl _ _).alloc (Nat.le_refl _) _) rfl (fun g hg=>by simp [blk?] at hg;subst hg;simp)) ⟨_,rfl,hS.size,Bk.new _ _ _⟩
   refine steps_cons (step_onF rfl rfl fun _ _ hCA _ _ _ hold _ _ _ _ hK=>?_) ?_
   · obtain ⟨hS,hAp⟩:=hCA
     clear hold
     go_simp
     exact hK _ _ (lstep_new ((Below.refl _ _).alloc (Nat.le_refl _) _) rfl (fun g hg=>by simp [blk?] at hg;subst hg;simp)) ⟨_,_,rfl,hS.size,Bk.new _ _ _⟩
   refine steps_cons (step_onF rfl rfl fun ev w5 hCA _ _ _ hold hval _ _ _ hK=>?_) ?_
   · obtain ⟨hS,hAp⟩:=hCA
     have p19:(fun v w2=>∃g,v=.slice (some ⟨g,0,none⟩) n n∧W0.heap.size≤g∧Bk w2 g 3 (Array.replicate n (.int .i64 0))) (ev (.tmp 19)) w5:=hval 1 19 (by kernel_rfl) rfl
     clear hold
     clear p19
     go_simp
     exact hK _ _ (lstep_grow (Below.refl _ _) rfl rfl) (by first | exact e19.symm | rfl)
   refine steps_cons (step_onF rfl rfl fun ev w5 hCA _ _ _ hold hval _ _ _ hK=>?_) ?_
   · obtain ⟨hS,hAp⟩:=hCA
     have p6:(fun v w2=>∃g c,v=.pointer (some ⟨g,0,none⟩)∧W0.heap.size≤g∧Bk w2 g 22 #[c]) (ev (.tmp 6)) w5:=hval 6 6 (by kernel_rfl) rfl
     have p21:(fun v w2=>∃A c,v=.slice A n c∧Made w2 W0.heap.size 3 1 A n c ((symL t).map sv)) (ev (.tmp 21)) w5:=hval 3 21 (by kernel_rfl) rfl
     clear hold
     obtain ⟨g,c,e6,hg,hb⟩:=p6
     obtain ⟨A2,c2,e21,hm21⟩:=p21
     have c6:=hb.cell 0
     have f6:=hb.frozen 0
     have hg2:=hb.lt
     go_simp
     exact hK (.bool true) _ (lstep_at (SetT.set hb hg _) (by simp [World.setCell]) rfl) ⟨g,e6,hg,by rw [e21];exact hb.set 0 _⟩
   refine steps_cons (step_onF rfl rfl fun ev w5 hCA _ _ _ hold hval _ _ _ hK=>?_) ?_
   · obtain ⟨hS,hAp⟩:=hCA
     have p23:(fun v w2=>∃g,v=.slice (some ⟨g,0,none⟩) n n∧W0.heap.size≤g∧Bk w2 g 3 (Array.replicate n (.int .i64 0))) (ev (.tmp 23)) w5:=hval 5 23 (by kernel_rfl) rfl
     clear hold
     clear p23
     go_simp
     exact hK _ _ (lstep_grow (Below.refl _ _) rfl rfl) (by first | exact e23.symm | rfl)
   exact steps_nil
 · intro ev w6 hS hAp hval hall
   have e5:ev (.tmp 5)=ev (.tmp 19):=hval 7 5 rfl
   have p6:(fun v w2=>∃g c,v=.pointer (some ⟨g,0,none⟩)∧W0.heap.size≤g∧Bk w2 g 22 #[c]) (ev (.tmp 6)) w6:=hval 6 6 rfl
   have e7:ev (.tmp 7)=ev (.tmp 23):=hval 9 7 rfl
   have p19:(fun v w2=>∃g,v=.slice (some ⟨g,0,none⟩) n n∧W0.heap.size≤g∧Bk w2 g 3 (Array.replicate n (.int .i64 0))) (ev (.tmp 19)) w6:=hval 1 19 rfl
   have p21:(fun v w2=>∃A c,v=.slice A n c∧Made w2 W0.heap.size 3 1 A n c ((symL t).map sv)) (ev (.tmp 21)) w6:=hval 3 21 rfl
   have p23:(fun v w2=>∃g,v=.slice (some ⟨g,0,none⟩) n n∧W0.heap.size≤g∧Bk w2 g 3 (Array.replicate n (.int .i64 0))) (ev (.tmp 23)) w6:=hval 5 23 rfl
   obtain ⟨vJ,pJ0⟩:=hall 8 (by decide)
   have pJ:(fun u v w2=>∃g,u=.pointer (some ⟨g,0,none⟩)∧W0.heap.size≤g∧Bk w2 g 22 #[v]) (ev (.tmp 6)) (ev (.tmp 21)) w6:=pJ0
   clear pJ0
   simp only [putsOf,List.foldl_cons,List.foldl_nil,Act.put,List.setIfInBounds_toArray,List.set_cons_zero,List.set_cons_succ]
   clear hval hall
   obtain ⟨gx,hx1,hx2,hx3⟩:=p19
   obtain ⟨g7,h71,h72,h73⟩:=p23
   obtain ⟨A6,c6,h61,h62⟩:=p21
   obtain ⟨gr,hr1,hr2,hr3⟩:=pJ
   rw [h61] at hr3
   obtain ⟨g6,rfl,h6l,h6r⟩:∃g6,A6=some ⟨g6,0,none⟩∧W0.heap.size≤g6∧∃cs:Array Value,Bk w6 g6 3 cs∧n≤cs.size∧∀(j:Nat) u,((symL t).map sv)[j]?=some u→cs[j]?=some u:=by
    rcases h62.own.2 with ⟨h,_⟩|⟨g,cap,cur,h,h2,h3,h4,h5,h6,h7⟩
    · injection h with h8 h9
      omega
    · injection h with h8 h9 h10
      refine ⟨g,h8,h2,cur,h3,by omega,fun j u hu=>?_⟩
      rw [←h7,List.getElem?_take,Array.getElem?_toList] at hu
      split at hu
      · exact hu
      · cases hu
   have hd1:gx≠g7:=fun e=>hAp.2 19 (by simp) 23 (by simp) (by decide) gx (by rw [hx1];rfl) (by rw [h71,e];rfl)
   have hd2:gx≠g6:=fun e=>hAp.2 19 (by simp) 21 (by simp) (by decide) gx (by rw [hx1];rfl) (by rw [h61,e];rfl)
   have hd3:g7≠g6:=fun e=>hAp.2 23 (by simp) 21 (by simp) (by decide) g7 (by rw [h71];rfl) (by rw [h61,e];rfl)
   have hgn1:=HBN.out.lt
   have hbn6:=HBN.out.below hS hgn1
   have hle6:=HB2.out.trans (hS.mono HB2.out.size)
   have hge6:=HB2.out.size
   rw [←fillA_zero] at hx3
   have hc6:n≤c6:=h62.cap
   rw [e5,e7,hx1,h71,hr1]
   have Hx3:=lhd hx3
   have H73:=lhd h73
   have H6r:=lhd h6r
   have Hr3:=lhd hr3
   have Hbn:=lhd hbn6
   have Hle:=lhd hle6
   have Hd:gx≠g7∧gx≠g6∧g7≠g6:=⟨hd1,hd2,hd3⟩
   have HD:=lhd Hd
   clear e5 e7 hx1 h71 hr1 hx3 h73 h6r hr3 hbn6 hle6 Hd hd1 hd2 hd3 hS hAp p6 h61 h62 HR1 HR2 HB2 HBN Hcn Hgn
   go_wp2_with fail
   go_loopw [26,8] (fun i _ wr=>∃k:Nat,k≤n∧i=.int .i64 k∧Bk wr gx 3 (fillA n k)∧Keep (fun b=>b=gx) w6 wr) (fun i _ _=>n -(intOf i).toNat)
   case atStart=>exact ⟨0,by omega,rfl,Hx3.out,Keep.refl _ _⟩
   case round=>
    obtain ⟨k,hk,rfl,hbk,hkp⟩:=hrel
    by_cases hlt:k < n
    · have c0:=hbk.cell k
      have f0:=hbk.frozen k
      rw [Array.getElem?_eq_getElem (by rw [fillA_size];exact hlt)] at c0
      have Hbk:=lhd hbk
      have Hkp:=lhd hkp
      clear hbk hkp
      generalize (fillA n k)[k]'(by rw [fillA_size];exact hlt)=u0 at c0
      go_wp2_with fail
      go_roundw
      case rel=>exact ⟨k+1,by omega,by go_num,by rw [←fillA_step _ _ hlt];exact Hbk.out.set k _,Hkp.out.setCell (.inl rfl) _⟩
      case measure=>simp [intOf];omega
    · obtain rfl:n=k:=by omega
      have Hbk:=lhd hbk
      have Hkp:=lhd hkp
      clear hbk hkp
      go_wp2_with fail
      obtain ⟨gw,hgw⟩:∃g,wr.heap.size=g:=⟨_,rfl⟩
      have hbw:Bk (wr.alloc (.cells #[.int .i64 (1:Int)] 3)) gw 3 #[.int .i64 (1:Int)]:=hgw ▸ Bk.new _ _ _
      have hinv:RInv w.heap.size w m n (symL t) gn gr gx (wr.alloc (.cells #[.int .i64 (1:Int)] 3)) gw g6 g7 c6 n 1 (rows0 m) (symL t):=by
         obtain ⟨d1,d2,d3⟩:=HD.out
         obtain ⟨cs,k1,k2,k3⟩:=H6r.out
         have kx:=Hkp.out
         have hz:=kx.size
         have l1:=Hx3.out.lt
         have l2:=Hbn.out.lt
         have l3:=H73.out.lt
         have l6:=k1.lt
         have lr:=Hr3.out.lt
         refine ⟨hbw,(kx.bk Hbn.out (fun e=>by have:=hx2;omega)).alloc _,(kx.bk Hr3.out (fun e=>by subst e;exact Bk.ne Hr3.out Hx3.out (by decide) rfl)).alloc _,⟨cs,(kx.bk k1 (fun e=>d2 e.symm)).alloc _,k2,k3⟩,⟨_,(kx.bk H73.out (fun e=>d1 e.symm)).alloc _,by simp⟩,?_,rows0_ok m,?_,?_,⟨hc6,Nat.le_refl _⟩,?_,?_,rank_start _,Nat.le_refl _,hn1,?_⟩
         · have:=Hbk.out
           rw [←HN.out,fillA_end] at this
           exact this.alloc _
         · refine ⟨?_,?_,d2,d1,?_,?_,d3,?_,?_⟩<;> omega
         · refine ⟨?_,?_,?_,?_⟩<;> omega
         · rw [symL_len,Htl.out,HN.out]
         · intro r hr
           have:=symL_lt t r hr
           omega
         · refine (Hle.out.trans ?_).alloc (by omega) _
           exact kx.to_below (by have:=Hle.out.size;omega) (fun b hb e=>by have:=hx2;omega)
      rw [hgw]
      generalize wr.alloc (.cells #[.int .i64 (1:Int)] 3)=W8 at hinv⊢
      have Hinv:=lhd hinv
      clear hinv hbw hgw Hbk Hkp HD H6r Hbn Hr3 H73 Hx3 Hle
      go_loopg [7,9] (n) (fun gk x y wr=>∃gw g6 g7 c6 c7 wd d R,x=.slice (some ⟨g7,0,none⟩) n c7∧y=.pointer (some ⟨gw,0,none⟩)∧n - wd≤gk∧RInv w.heap.size w m n (symL t) gn gr gx wr gw g6 g7 c6 c7 wd d R)
      case atStart=>exact ⟨_,_,_,_,_,_,_,_,rfl,rfl,by omega,Hinv.out⟩
      case round=>
         clear Hinv
         obtain ⟨gw,g6,g7,c6,c7,wd,d,R,rfl,rfl,hgk,hinv⟩:=hrel
         have Hinv:=lhd hinv
         clear hinv
         go_wp2_with fail
         obtain ⟨gb,hgb⟩:∃g,wr.heap.size=g:=⟨_,rfl⟩
         have hbb:Bk (wr.alloc (.cells #[.func (.func 117) #[] #[.pointer (some ⟨gw,0,none⟩),.pointer (some ⟨gn,0,none⟩),.pointer (some ⟨gr,0,none⟩)]] 31)) gb 31 #[.func (.func 117) #[] #[.pointer (some ⟨gw,0,none⟩),.pointer (some ⟨gn,0,none⟩),.pointer (some ⟨gr,0,none⟩)]]:=hgb ▸ Bk.new _ _ _
         have hinv1:=Hinv.out.grow ((Below.refl wr.heap.size wr).alloc (Nat.le_refl _) (.cells #[.func (.func 117) #[] #[.pointer (some ⟨gw,0,none⟩),.pointer (some ⟨gn,0,none⟩),.pointer (some ⟨gr,0,none⟩)]] 31))
         rw [hgb]
         generalize wr.alloc (.cells #[.func (.func 117) #[] #[.pointer (some ⟨gw,0,none⟩),.pointer (some ⟨gn,0,none⟩),.pointer (some ⟨gr,0,none⟩)]] 31)=W1 at hbb hinv1⊢
         have hdz:d.size=n:=by rw [hinv1.ok.size,HN.out]
         have hcmp:CmpReads Tryz.prog 118 #[.pointer (some ⟨gr,0,none⟩),.pointer (some ⟨gb,0,none⟩)] (encF m) (cfF m wd R) gx 0 d.size W1:=fun q os dk hdk x y=>by
          have k:=sort_keep (enc:=encF m) hinv1.rows.lt 0 q dk os
          exact Rows2_any gw gn gr gb wd n c6 (some ⟨g6,0,none⟩) R x.val y.val _ (hinv1.ordk k) (((k.bk hbb (Bk.ne hbb hinv1.rows (by decide))).cell 0).trans rfl) (by have:=hinv1.wdn;omega) (by omega) hinv1.rle (by have:=x.isLt;have:=HN.out;omega) (by have:=y.isLt;have:=HN.out;omega)
         have hsort:=Any.slices_SortFunc shSort (encF m) (oneCell_encF m) (cfF m wd R) (swo_cf m hinv1.rk) 118 #[.pointer (some ⟨gr,0,none⟩),.pointer (some ⟨gb,0,none⟩)] gx 0 n d W1 (enters_of Tryz.func118 (by kernel_rfl) rfl) hcmp.lays (bk_holds hinv1.rows) hinv1.rows.lt (by omega)
         rw [hdz] at hsort
         refine hsort.mono ?_
         clear hsort hcmp
         rintro e W2 ⟨rfl,d',nq,os,hperm,hsrt,rfl⟩
         have ho':RowsOk m d':=hinv1.ok.of_perm (by rw [hdz];exact hperm)
         have hinv2:=hinv1.keepx (sort_keep (enc:=encF m) hinv1.rows.lt 0 nq d' os) (sort_bk hinv1.rows hperm.1 nq os) ho'
         have hbb2:=(sort_keep (enc:=encF m) hinv1.rows.lt 0 nq d' os).bk hbb (Bk.ne hbb hinv1.rows (by decide))
         generalize Go.Proofs.sortWorld (encF m) W1 gx 0 nq d' os=W2 at hinv2 hbb2⊢
         have hsr:∀i,i+1 < n→¬ltW (aN (symL t)) (wd+wd) (rowF d' (i+1)) (rowF d' i):=by
          rw [←HN.out] at hsrt⊢
          exact fun i hi=>sorted_f hinv2.rk ho'.size hsrt i hi
         have Hsr:=lhd hsr
         have Hinv2:=lhd hinv2
         have Hbb:=lhd hbb2
         clear hsr hinv1 hinv2 hbb hbb2 hperm hsrt hdz Hinv hgb
         have hNm:=HN.out
         have hlt0:=Hinv2.out.ok.lt 0
         have cx0:W2.cell? ⟨gx,0,none⟩=some (.int .i64 ((rowF d' 0:Nat):Int)):=(Hinv2.out.rows.cell 0).trans (Hinv2.out.ok.cell (by omega))
         obtain ⟨cs7,k71,k72⟩:=Hinv2.out.next
         obtain ⟨p0,hp0⟩:∃p,rowF d' 0=p:=⟨_,rfl⟩
         rw [hp0] at cx0 hlt0
         have c70:=k71.cell p0
         rw [Array.getElem?_eq_getElem (by omega)] at c70
         have f70:=k71.frozen p0
         generalize cs7[p0]'(by omega)=u7 at c70
         have hp0n:p0 < n:=by omega
         have K71:=lhd k71
         have Hp0:=lhd hp0
         clear k71 hp0 hNm hlt0
         go_wp2_with fail
         clear cx0 c70 f70
         go_loopw [12] (fun i wr3=>∃k:Nat,1≤k∧k≤n∧i=.int .i64 k∧∃cs:Array Value,Bk wr3 g7 3 cs∧n≤cs.size∧(∀j,j < k→cs[rowF d' j]?=some (.int .i64 ((cN (ordV (aN R) wd) (rowF d') j:Nat):Int)))∧Keep (fun b=>b=g7) W2 wr3) (fun i _=>n -(intOf i).toNat)
         case atStart=>
          refine ⟨1,by omega,by omega,rfl,_,K71.out.set p0 _,by simpa using k72,fun j hj=>?_,(Keep.refl (fun b=>b=g7) W2).setCell (p:=⟨g7,p0,none⟩) (.inl rfl) _⟩
          obtain rfl:j=0:=by omega
          rw [Hp0.out,Array.getElem?_setIfInBounds,if_pos rfl,if_pos (by omega)]
          rfl
         case round=>
          clear K71 Hp0 hp0n k72
          obtain ⟨k,hk1,hk,rfl,cs,hc1,hc2,hc3,hkp⟩:=hrel
          have hinv3:=Hinv2.out.keep7 hkp ⟨cs,hc1,hc2⟩
          by_cases hlt:k < n
          · obtain ⟨j,hj⟩:∃j,k=j+1:=⟨k - 1,by omega⟩
            have hNm:=HN.out
            have ck:wr.cell? ⟨gx,k,none⟩=some (.int .i64 ((rowF d' k:Nat):Int)):=(hinv3.rows.cell k).trans (hinv3.ok.cell (by omega))
            have cj:wr.cell? ⟨gx,j,none⟩=some (.int .i64 ((rowF d' j:Nat):Int)):=(hinv3.rows.cell j).trans (hinv3.ok.cell (by omega))
            have cnj:=(hc1.cell (rowF d' j)).trans (hc3 j (by omega))
            have lk:=hinv3.ok.lt k
            have lj:=hinv3.ok.lt j
            have cnk:=hc1.cell (rowF d' k)
            rw [Array.getElem?_eq_getElem (by omega)] at cnk
            have fnk:=hc1.frozen (rowF d' k)
            generalize cs[rowF d' k]'(by omega)=uk at cnk
            have cn:=(hinv3.len.cell 0).trans rfl
            have e1:IntKind.i64.wrap ((k:Int) - 1)=(j:Int):=by rw [IntKind.wrap_i64];omega
            have hltI:decide ((k:Int) < (n:Int))=true:=by simp;omega
            obtain ⟨pk,hpk⟩:∃p,rowF d' k=p:=⟨_,rfl⟩
            obtain ⟨pj,hpj⟩:∃p,rowF d' j=p:=⟨_,rfl⟩
            obtain ⟨v,hv⟩:∃v,cN (ordV (aN R) wd) (rowF d') j=v:=⟨_,rfl⟩
            have hvb:=cN_le (ordV (aN R) wd) (rowF d') 0 j
            rw [Nat.zero_add,hv] at hvb
            have hv0:v≤1000:=by have:cN (ordV (aN R) wd) (rowF d') 0=0:=rfl;omega
            rw [hpk] at ck lk cnk fnk
            rw [hpj] at cj lj cnj
            rw [hv] at cnj
            have hpkn:pk < n:=by omega
            have hpjn:pj < n:=by omega
            have hjn:j < n:=by omega
            have Hc1:=lhd hc1
            have Hc2:=lhd hc2
            have Hc3:=lhd hc3
            have Hkp:=lhd hkp
            have Hinv3:=lhd hinv3
            have Hpk:=lhd hpk
            have Hpj:=lhd hpj
            have Hv:=lhd hv
            have Hj:=lhd hj
            clear hc1 hc2 hc3 hkp hinv3 hpk hpj hv hvb hNm lk lj hj
            go_wp2_with fail
            refine wp_region_still_tail 14 (by kernel_rfl) (by kernel_rfl) ?_
            simp only [List.take_succ_cons,List.take_zero,List.drop_succ_cons,List.drop_zero]
            change wpStill _ _ wr.drew (fun a'=>wpList _ _ _ _ a' wr.drew) _ _
            have ck':wr.drew.cell? ⟨gx,k,none⟩=_:=ck
            have cj':wr.drew.cell? ⟨gx,j,none⟩=_:=cj
            have cnj':wr.drew.cell? ⟨g7,pj,none⟩=_:=cnj
            have cnk':wr.drew.cell? ⟨g7,pk,none⟩=_:=cnk
            have fnk':wr.drew.frozen? ⟨g7,pk,none⟩=false:=fnk
            have Hc1':=lhd Hc1.out.drew
            have Hkp':=lhd Hkp.out.drew
            have Hinv3':=lhd (Hinv3.out.keep7 (Keep.refl _ _).drew ⟨cs,Hc1.out.drew,Hc2.out⟩)
            clear ck cj cnj cnk fnk cn Hc1 Hkp Hinv3
            generalize wr.drew=W5 at ck' cj' cnj' cnk' fnk' Hc1' Hkp' Hinv3'⊢
            iterate 14 still_step
            refine wpStill_nil ?_
            go_wp2_with fail
            have hc6:=Hc1'.out.set pk (.int .i64 (v:Int))
            have hkp6:=Hkp'.out.setCell (p:=⟨g7,pk,none⟩) (.inl rfl) (.int .i64 (v:Int))
            have hinv6:=Hinv3'.out.keep7 ((Keep.refl (fun b=>b=g7) W5).setCell (p:=⟨g7,pk,none⟩) (.inl rfl) (.int .i64 (v:Int))) ⟨_,hc6,by simpa using Hc2.out⟩
            have hbb6:=hkp6.bk Hbb.out (fun e=>by
               obtain ⟨cs9,h9,_⟩:=Hinv2.out.next
               subst e
               exact Bk.ne Hbb.out h9 (by decide) rfl)
            generalize W5.setCell ⟨g7,pk,none⟩ (.int .i64 (v:Int))=W6 at hc6 hkp6 hinv6 hbb6⊢
            clear ck' cj' cnj' cnk' fnk' Hc1' Hkp' Hinv3'
            have ck:W6.cell? ⟨gx,k,none⟩=some (.int .i64 (pk:Int)):=by rw [←Hpk.out];exact (hinv6.rows.cell k).trans (hinv6.ok.cell (by have:=HN.out;omega))
            have cj:W6.cell? ⟨gx,j,none⟩=some (.int .i64 (pj:Int)):=by rw [←Hpj.out];exact (hinv6.rows.cell j).trans (hinv6.ok.cell (by have:=HN.out;omega))
            obtain ⟨z,hz⟩:∃z,ordV (aN R) wd pj pk=z:=⟨_,rfl⟩
            have kc:∀q:Nat,Calls Tryz.prog 118 #[.int .i64 (pj:Int),.int .i64 (pk:Int),.pointer (some ⟨gr,0,none⟩),.pointer (some ⟨gb,0,none⟩)] (W6.drewN q) fun e w'=>e=.returned (.int .i64 z)∧∃q',w'=W6.drewN q':=fun q=>by
               have h:=Rows2_any gw gn gr gb wd n c6 (some ⟨g6,0,none⟩) R pj pk (W6.drewN q) ((hinv6.ordk (Keep.refl _ _)).drewN q) ((hbb6.drewN q).cell 0) (by have:=hinv6.wdn;omega) (by omega) hinv6.rle hpjn hpkn
               rw [hz] at h
               exact h.mono fun _ _ ⟨he,q',hq⟩=>⟨he,q+q',by rw [hq,World.drewN_drewN]⟩
            have Hc6:=lhd hc6
            have Hkp6:=lhd hkp6
            have Hinv6:=lhd hinv6
            have Hz:=lhd hz
            have e0:((k:Int) - 1).toNat=j:=by have:=Hj.out;omega
            have e2:(0:Int)≤(k:Int) - 1:=by have:=Hj.out;omega
            clear hc6 hkp6 hinv6 hbb6 hz
            go_quiet ((with_reducible exact kc _))
            have hfk:rowF d' k < cs.size:=by rw [Hpk.out];have:=Hc2.out;omega
            have hinj:∀j',j' < k→rowF d' j'≠rowF d' k:=fun j' hj' e=>by
               have:=Hinv6.out.ok.inj (i:=j') (j:=k) (by have:=HN.out;omega) (by have:=HN.out;omega) e
               omega
            have hck:cN (ordV (aN R) wd) (rowF d') k=v+(if z≠0 then 1 else 0):=by
               rw [Hj.out,←Hv.out]
               show cN _ _ j+(if ordV (aN R) wd (rowF d' j) (rowF d' (j+1))≠0 then 1 else 0)=_
               rw [←Hj.out,Hpk.out,Hpj.out,Hz.out]
            have Hfk:=lhd hfk
            have Hinj:=lhd hinj
            by_cases hz0:z=0
            · subst hz0
              rw [if_neg (by simp),Nat.add_zero] at hck
              have Hck:=lhd hck
              clear hck hfk hinj ck cj kc e0 e2 e1
              go_wp2_with fail
              go_roundw
              case rel=>
               refine ⟨k+1,by omega,by omega,by go_num,_,Hc6.out.drewN _,by simpa using Hc2.out,?_,Hkp6.out.drewN _⟩
               have:=next_step Hc3.out Hfk.out Hinj.out Hck.out
               rw [Hpk.out] at this
               exact this
              case measure=>simp [intOf];omega
            · rw [if_pos hz0] at hck
              have Hck:=lhd hck
              have c9:W6.cell? ⟨g7,pk,none⟩=some (.int .i64 (v:Int)):=by
               rw [Hc6.out.cell,Array.getElem?_setIfInBounds,if_pos rfl,if_pos (by have:=Hc2.out;omega)]
              have f9:=Hc6.out.frozen pk
              have hv1:IntKind.i64.wrap ((v:Int)+1)=((v+1:Nat):Int):=by rw [IntKind.wrap_i64];omega
              have hzb:(z==0)=false:=by simpa using hz0
              clear hck hfk hinj cj kc e0 e2 e1
              go_wp2_with fail
              go_roundw
              case rel=>
               refine ⟨k+1,by omega,by omega,by go_num,_,(Hc6.out.drewN nq).set pk _,by simpa using Hc2.out,?_,(Hkp6.out.drewN nq).setCell (p:=⟨g7,pk,none⟩) (.inl rfl) _⟩
               have:=next_step Hc3.out Hfk.out Hinj.out Hck.out
               rw [Hpk.out] at this
               rw [set_set]
               exact this
              case measure=>simp [intOf];omega
          · obtain rfl:n=k:=by omega
            have hNm:=HN.out
            obtain ⟨q,hq⟩:∃q,n=q+1:=⟨n - 1,by omega⟩
            obtain ⟨last,hlast⟩:∃v,cN (ordV (aN R) wd) (rowF d') q=v:=⟨_,rfl⟩
            have hlb:=cN_le (ordV (aN R) wd) (rowF d') 0 q
            rw [Nat.zero_add,hlast] at hlb
            have hl0:last≤q:=by have:cN (ordV (aN R) wd) (rowF d') 0=0:=rfl;omega
            obtain ⟨p,hp⟩:∃p,rowF d' q=p:=⟨_,rfl⟩
            have hpn:p < n:=by have:=hinv3.ok.lt q;omega
            have hW:=hinv3.box
            have cn0:=(hinv3.len.cell 0).trans rfl
            have a0:=hW.cell 0
            have f0:=hW.frozen 0
            have b1:∀g cs,Bk wr g 3 cs→Bk (wr.setCell ⟨gr,0,none⟩ (.slice (some ⟨g7,0,none⟩) n c7)) g 3 cs:=fun g cs h=>h.far (p:=⟨gr,0,none⟩) (Bk.ne h hW (by decide)) _
            have ck:(wr.setCell ⟨gr,0,none⟩ (.slice (some ⟨g7,0,none⟩) n c7)).cell? ⟨gx,q,none⟩=some (.int .i64 (p:Int)):=by rw [←hp];exact ((b1 _ _ hinv3.rows).cell q).trans (hinv3.ok.cell (by omega))
            have cl:(wr.setCell ⟨gr,0,none⟩ (.slice (some ⟨g7,0,none⟩) n c7)).cell? ⟨g7,p,none⟩=some (.int .i64 (last:Int)):=by rw [←hp,←hlast];exact ((b1 _ _ hc1).cell _).trans (hc3 q (by omega))
            have cn:=((b1 _ _ hinv3.len).cell 0).trans rfl
            have cb:=(hW.set 0 (.slice (some ⟨g7,0,none⟩) n c7)).cell 0
            have cw:=((b1 _ _ hinv3.wide).cell 0).trans rfl
            have hlw:q < n:=by omega
            have e1:IntKind.i64.wrap ((n:Int) - 1)=(q:Int):=by rw [IntKind.wrap_i64];omega
            have Hq:=lhd hq
            have Hlast:=lhd hlast
            have Hp:=lhd hp
            have Hinv3:=lhd hinv3
            have Hc1:=lhd hc1
            have Hc2:=lhd hc2
            have Hc3:=lhd hc3
            have HW:=lhd hW
            have HB1:=lhd b1
            have hltI:decide ((n:Int) < (n:Int))=false:=by simp
            clear hq hlast hp hinv3 hc1 hc2 hc3 hkp hW b1 hNm hlb
            go_wp2_with fail
            have hbx9:=HW.out.set 0 (.slice (some ⟨g7,0,none⟩) n c7)
            have hkp9:=(Keep.refl (fun b=>b=gr) wr).setCell (p:=⟨gr,0,none⟩) (.inl rfl) (.slice (some ⟨g7,0,none⟩) n c7)
            have b1:=HB1.out
            generalize wr.setCell ⟨gr,0,none⟩ (.slice (some ⟨g7,0,none⟩) n c7)=W9 at ck cl cn cb cw hbx9 hkp9 b1⊢
            have hrx:=b1 _ _ Hinv3.out.rows
            have h7x:=b1 _ _ Hc1.out
            have hwx:=b1 _ _ Hinv3.out.wide
            have hnx:=b1 _ _ Hinv3.out.len
            obtain ⟨cs6,k61,k62,k63⟩:=Hinv3.out.rank
            have h6x:=b1 _ _ k61
            have hle9:=Hinv3.out.below.trans (hkp9.to_below (by have:=Hinv3.out.lo.1;have:=Hinv3.out.rows.lt;omega) (fun b hb e=>by have:=Hinv3.out.lo.2.2.2;omega))
            have Hbx9:=lhd hbx9
            have Hrx:=lhd hrx
            have H7x:=lhd h7x
            have Hwx:=lhd hwx
            have Hnx:=lhd hnx
            have H6x:=lhd h6x
            have Hle9:=lhd hle9
            clear hbx9 hkp9 b1 hrx h7x hwx hnx h6x hle9 k61 k63 HB1
            have e0:((n:Int) - 1).toNat=q:=by have:=Hq.out;omega
            have e2:(0:Int)≤(n:Int) - 1:=by have:=Hq.out;omega
            have ho:∀i j,ordV (aN R) wd i j=0↔eqW (aN (symL t)) (wd+wd) i j:=ordV_eq Hinv3.out.rk
            have hll:(symL t).length=n:=by rw [symL_len,Htl.out,HN.out]
            have Ho:=lhd ho
            have Hll:=lhd hll
            clear ho hll
            go_quiet (fail)
            clear e0 e2 e1 ck cl cn cb cw
            have Hbx:=lhd (Hbx9.out.drewN nq)
            have Hrw:=lhd (Hrx.out.drewN nq)
            have H7w:=lhd (H7x.out.drewN nq)
            have Hww:=lhd (Hwx.out.drewN nq)
            have Hnw:=lhd (Hnx.out.drewN nq)
            have H6w:=lhd (H6x.out.drewN nq)
            have hle:Below w.heap.size w (W9.drewN nq):=⟨Hle9.out.os,Hle9.out.tape,Hle9.out.output,Hle9.out.size,Hle9.out.block⟩
            have Hle:=lhd hle
            clear hle Hbx9 Hrx H7x Hwx Hnx H6x Hle9
            generalize W9.drewN nq=W10 at Hbx Hrw H7w Hww Hnw H6w Hle⊢
            by_cases hlq:last=q
            · subst hlq
              have hsuf:=Hinv3.out.ok.suf (l:=symL t) (by rw [Hll.out,HN.out]) (w:=wd+wd) (fun i j hij hj=>cN_all Ho.out Hsr.out (by omega) (by have:=Hq.out;have:=Hlast.out;rw [show n - 1=last by omega];exact this) i j hij (by have:=HN.out;omega))
              have Hsuf:=lhd hsuf
              clear hsuf
              go_wp2_with fail
              go_ret
              refine ⟨_,some ⟨gx,0,none⟩,n,Hsuf.out,by rw [HN.out];rfl,?_,Hle.out⟩
              rw [←rows_sv]
              have:=made_bk Hrw.out Hinv3.out.lo.1 (n:=n) (by simp [Hinv3.out.ok.size,HN.out]) (by unfold maxLen;omega)
              have hcast:∀L,Made W10 w.heap.size 3 1 (some ⟨gx,0,none⟩) n n L→Made W10 w.heap.size 3 1 (some ⟨gx,0,none⟩) (m+1) n L:=fun L h=>by
               rw [HN.out]
               exact h
              exact hcast _ this
            · have hqI:((last:Int)==(q:Int))=false:=by simp;omega
              have hqN:(last==q)=false:=by simp;omega
              have cw:=Hww.out.cell 0
              have cwl:=Hww.out.lt
              have hwd:wd≤201:=by have:=Hinv3.out.wdn;omega
              go_wp2_with fail
              have hnd:wd+wd < n:=by
               rcases Nat.lt_or_ge (wd+wd) n with h | h
               · exact h
               · exfalso
                 apply hlq
                 rw [←Hlast.out]
                 refine cN_full (n:=n) (fun i hi he=>?_) q hlw
                 have:=(Ho.out _ _).1 he
                 have hN:=HN.out
                 refine not_eqW (l:=symL t) (by rw [Hll.out];exact h) (by rw [Hll.out];have:=Hinv3.out.ok.lt i;omega) (by rw [Hll.out];have:=Hinv3.out.ok.lt (i+1);omega) (fun e=>?_) this
                 have:=Hinv3.out.ok.inj (by omega) (by omega) e
                 omega
              go_roundg (n -(wd+wd))
              case measure=>have:=Hinv3.out.wd1;omega
              case rel=>
               obtain ⟨R',r1,r2,r3,r4⟩:=ranks_of (cs:=cs) (f:=rowF d') (v:=cN (ordV (aN R) wd) (rowF d')) Hc2.out (fun j _=>by have:=Hinv3.out.ok.lt j;have:=HN.out;omega) Hc3.out (fun p hp=>by
                obtain ⟨i,h1,h2⟩:=Hinv3.out.ok.sur (p:=p) (by have:=HN.out;omega)
                exact ⟨i,by have:=HN.out;omega,h2⟩)
               have hrk:RankOk (aN (symL t)) (aN R') (wd+wd):=by
                refine rank_next (by have:=Hinv3.out.wd1;omega) Ho.out (fun i hi=>Hsr.out i (by rw [←Hll.out];exact hi)) (by rw [r1,Hll.out]) (fun i hi=>r2 i (by rw [←Hll.out];exact hi)) (fun p hp=>?_)
                obtain ⟨i,h1,h2⟩:=Hinv3.out.ok.sur (p:=p) (by have:=HN.out;rw [Hll.out] at hp;omega)
                exact ⟨i,by have:=HN.out;rw [Hll.out];omega,h2⟩
               obtain ⟨a1,a2,a3,a4,a5,a6,a7,a8,a9⟩:=Hinv3.out.ap
               have lx:=Hrw.out.lt
               have lw1:=Hinv3.out.wd1
               have l7:=H7w.out.lt
               have l6:=H6w.out.lt
               have ln:=Hnw.out.lt
               have e2:(wd:Int)*2=((wd+wd:Nat):Int):=by omega
               rw [e2]
               refine ⟨_,_,_,_,_,wd+wd,d',R',rfl,rfl,Nat.le_refl _,Bk.new _ _ _,Hnw.out.alloc _,Hbx.out.alloc _,⟨_,H7w.out.alloc _,Hc2.out,r3⟩,⟨_,H6w.out.alloc _,k62⟩,Hrw.out.alloc _,Hinv3.out.ok,⟨?_,a2,a4,a3,?_,a9,a7.symm,?_,a6⟩,⟨Hinv3.out.lo.1,Hinv3.out.lo.2.2.1,Hinv3.out.lo.2.1,Hinv3.out.lo.2.2.2⟩,⟨Hinv3.out.cap.2,Hinv3.out.cap.1⟩,r1,?_,hrk,by omega,by omega,Hle.out.alloc Hle.out.size _⟩
               · omega
               · omega
               · omega
               · intro r hr
                 obtain ⟨j,hj,rfl⟩:=r4 r hr
                 have:=cN_le (ordV (aN R) wd) (rowF d') 0 j
                 rw [Nat.zero_add] at this
                 have h0:cN (ordV (aN R) wd) (rowF d') 0=0:=rfl
                 omega
end Go.Proofs.YtipaccakmndkgaaGreatDoor
