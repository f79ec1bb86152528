/- The walk of the wave's Rank. Conditions: symbols below 257. Plain laws for sorted.Rows: the sorted list of a text's suffixes (IsSuf, and that there is one), the sort's world, the array of rows. No conditions. As 'Loose10' (one writer, the last operation waits for all the others), where the other operations may look into trees and waves (Vis). No conditions. Words for the wave's New: rows of bits of one level, path by path. No conditions. -/
import Derived.Test.YtipaccakmndkgaaGreatDoorPsl12
import Derived.Test.YtipaccakmndkgaaGreatDoorPsl7
import Derived.Shelf.SlSortCmp.Kit1
import Derived.Test.YtipaccakmndkgaaGreatDoorPsl6
import Derived.Test.YtipaccakmndkgaaGreatDoorPsl5
set_option linter.unusedVariables false
set_option linter.unusedSimpArgs false
set_option maxRecDepth 100000
set_option maxHeartbeats 2000000
namespace Go.Proofs.YtipaccakmndkgaaGreatDoor
open Go.RowKit
theorem ix9 (S:Nat→Value) (lv:Nat) (h:lv < 9) (w:World):(Instr.index 172 (.agg #[S 0,S 1,S 2,S 3,S 4,S 5,S 6,S 7,S 8]) (.int .i64 (lv:Int))).run Tryz.prog w=.ok (S lv) w:=by
 rcases lv with _ | _ | _ | _ | _ | _ | _ | _ | _ | lv
 all_goals first |(exfalso;omega)| kernel_rfl
theorem WaveRank_any (B gv:Nat) (L:List Nat) (k s:Nat) (w:World) (h:WaveAt w B gv L) (hs:s < 257) (hk:k≤L.length) (hL:∀x∈L,x < 257) (hn:L.length≤1000):
 Calls Tryz.prog 192 #[.pointer (some ⟨gv,0,none⟩),.int .i64 (k:Int),.int .i64 (s:Int)] w fun e w'=>e=.returned (.int .i64 (((L.take k).count s:Nat):Int))∧VB B w w':=by
 have h90:=atLv_zero L k s hk hL hs
 have h99:=atLv_nine L k s
 obtain ⟨hBg,S,v,hb,hrows⟩:=h
 have hset:=hb.set 10 (.int .i64 0)
 rw [wcells_visits] at hset
 have hv1:=VB.set_wave hb hBg 0
 obtain ⟨n,hnn⟩:∃n,L.length=n:=⟨_,rfl⟩
 rw [hnn] at hb hset hk hn
 have m1:max (k:Int) 0=(k:Int):=by omega
 have m2:min (k:Int) (n:Int)=(k:Int):=by omega
 have f10:=hb.frozen 10
 have x10:w.cell? ⟨gv,10,none⟩=some (.int .i64 v):=(hb.cell 10).trans (wcells_get S n v).2.2.2.2.2.2.2.2.2.2
 have hlt:=hb.lt
 obtain ⟨W,hW⟩:∃W,w.setCell ⟨gv,10,none⟩ (.int .i64 0)=W:=⟨_,rfl⟩
 rw [hW] at hset hv1
 have Hset:=lhd hset
 have Hv1:=lhd hv1
 have Hrows:=lhd hrows
 have H0:=lhd h90
 have H9:=lhd h99
 have HL:=lhd hL
 have HN:=lhd hnn
 have HW:=lhd hW
 clear hb hrows hset hv1 h90 h99 hL hnn hW
 go_enter Tryz.func192,Tryz.ntmps192
 go_wp2_with fail
 rw [HW.out]
 refine (SymIs_any s _ hs).mono ?_
 rintro e w1 ⟨rfl,hb1⟩
 have hbk:=Hset.out.below hb1 Hset.out.lt
 have hv2:=Hv1.out.below hb1
 obtain ⟨d0,d1,d2,d3,d4,d5,d6,d7,d8,d9,d10⟩:=wcells_get S (n:Int) 0
 have c0:w1.cell? ⟨gv,0,none⟩=some (S 0):=(hbk.cell 0).trans d0
 have c1:w1.cell? ⟨gv,1,none⟩=some (S 1):=(hbk.cell 1).trans d1
 have c2:w1.cell? ⟨gv,2,none⟩=some (S 2):=(hbk.cell 2).trans d2
 have c3:w1.cell? ⟨gv,3,none⟩=some (S 3):=(hbk.cell 3).trans d3
 have c4:w1.cell? ⟨gv,4,none⟩=some (S 4):=(hbk.cell 4).trans d4
 have c5:w1.cell? ⟨gv,5,none⟩=some (S 5):=(hbk.cell 5).trans d5
 have c6:w1.cell? ⟨gv,6,none⟩=some (S 6):=(hbk.cell 6).trans d6
 have c7:w1.cell? ⟨gv,7,none⟩=some (S 7):=(hbk.cell 7).trans d7
 have c8:w1.cell? ⟨gv,8,none⟩=some (S 8):=(hbk.cell 8).trans d8
 have c9:w1.cell? ⟨gv,9,none⟩=some (.int .i64 (n:Int)):=(hbk.cell 9).trans d9
 have Hbk:=lhd hbk
 have Hv2:=lhd hv2
 clear d0 d1 d2 d3 d4 d5 d6 d7 d8 d9 d10 hbk hv2 hb1 Hset Hv1 x10 f10
 go_wp2_with fail
 go_loopw [1,28] (fun x i wr=>∃lv:Nat,lv≤9∧i=.int .i64 lv∧x=.int .i64 ((atLv L k s lv:Nat):Int)∧VB B w1 wr) (fun _ i _=>9 -(intOf i).toNat)
 case atStart=>exact ⟨0,by omega,rfl,by rw [H0.out],VisK.refl _ _⟩
 case round=>
  obtain ⟨lv,hlv,rfl,rfl,hv⟩:=hrel
  by_cases hl9:lv < 9
  · have hix:=ix9 S lv hl9
    obtain ⟨G,hown,htr⟩:=Hrows.out lv hl9
    obtain ⟨m,hm⟩:∃m,2 ^ lv=m:=⟨_,rfl⟩
    obtain ⟨p,hp⟩:∃p,pathN s lv=p:=⟨_,rfl⟩
    have hpm:p < m:=by rw [←hm,←hp];exact path_lt s lv hs (by omega)
    rw [hm] at hown htr
    obtain ⟨g,cap,hSl,hnc,hgl⟩:=World.ownsRow.form hown (by omega)
    rw [hSl] at hix hown
    obtain ⟨x,hx⟩:∃x,atLv L k s lv=x:=⟨_,rfl⟩
    obtain ⟨y,hy⟩:∃y,atLv L k s (lv+1)=y:=⟨_,rfl⟩
    obtain ⟨b,hbb⟩:∃b,bitB s lv=b:=⟨_,rfl⟩
    have hxy:=atLv_step L k s lv hl9
    have hxl:=atLv_le L k s lv
    rw [hp,hx,hbb,hy] at hxy
    rw [hp,hx] at hxl
    rw [hx]
    have hpI:(p:Int) < (m:Int):=by omega
    have Hxy:=lhd hxy
    have Hxl:=lhd hxl
    have Hown:=lhd hown
    have Htr:=lhd (htr p hpm)
    have Hp:=lhd hp
    have Hb:=lhd hbb
    have Hy:=lhd hy
    have Hv:=lhd hv
    clear hown htr hSl hm hp hx hy hbb hxy hxl hv
    go_wp2_with fail
    refine wp_region_any (by kernel_rfl) ?_
    refine wpAny_loose2 [32,33,34,35,36,37,38,39,40,41,42,43,1] (VB B) (Vs [is (.pointer (some ⟨gv,0,none⟩)),is (.slice (some ⟨g,0,none⟩) m cap),is (.int .i64 (s:Int)),is (.int .i64 (lv:Int)),is (.int .i64 (p:Int)),is (.pointer (some ⟨g,p*3,none⟩)),is (.agg #[.pointer (some ⟨G p,0,none⟩),.int .i64 (lv:Int),.int .i64 (p:Int)]),is (.int .i64 (x:Int)),is (.int .i64 (s:Int)),is (.int .i64 (lv:Int)),is (.bool b),is (.int .i64 (y:Int)),is (.int .i64 (y:Int))]) _ _ rfl (by kernel_rfl) (VisK.refl _ _) (fun _ _=>VisK.trans) (stbs_all (by repeat' (first | exact stbs_is _ _ | exact stbs_any _ |(refine List.forall_mem_cons.2 ⟨?_,?_⟩)|(intro p hp;cases hp)))) ?_ ?_
    · refine steps_of ?_
      refine steps_cons (step_on rfl rfl fun ev _ _ _ _ hold _ _ _ _ hK=>?_) ?_
      · have e0:ev (.tmp 0)=.pointer (some ⟨gv,0,none⟩):=hold 0 (by kernel_rfl)
        go_simp
        exact hK _ _ ((VisK.refl _ _)) rfl
      refine steps_cons (step_on rfl rfl fun ev _ _ _ _ hold _ _ _ _ hK=>?_) ?_
      · have e8:ev (.tmp 8)=.slice (some ⟨g,0,none⟩) m cap:=hold 8 (by kernel_rfl)
        go_simp
        exact hK _ _ ((VisK.refl _ _)) rfl
      refine steps_cons (step_on rfl rfl fun ev _ _ _ _ hold _ _ _ _ hK=>?_) ?_
      · have e2:ev (.tmp 2)=.int .i64 (s:Int):=hold 2 (by kernel_rfl)
        go_simp
        exact hK _ _ ((VisK.refl _ _)) rfl
      refine steps_cons (step_on rfl rfl fun ev _ _ _ _ hold _ _ _ _ hK=>?_) ?_
      · have e7:ev (.tmp 7)=.int .i64 (lv:Int):=hold 7 (by kernel_rfl)
        go_simp
        exact hK _ _ ((VisK.refl _ _)) rfl
      refine steps_cons (step_on rfl rfl fun _ w5 _ _ _ _ hval _ _ _ hK=>?_) ?_
      · have e34:_=_:=hval 2 34 (by kernel_rfl) rfl
        have e35:_=_:=hval 3 35 (by kernel_rfl) rfl
        go_simp
        refine (SymPath_any s lv w5 hs (by omega)).mono ?_
        rintro e w8 ⟨rfl,hb8⟩
        rw [Hp.out]
        exact hK _ _ (VisK.of_below hb8) rfl
      refine steps_cons (step_on rfl rfl fun _ _ _ _ _ _ hval _ _ _ hK=>?_) ?_
      · have e33:_=_:=hval 1 33 (by kernel_rfl) rfl
        have e36:_=_:=hval 4 36 (by kernel_rfl) rfl
        go_simp
        exact hK _ _ ((VisK.refl _ _)) rfl
      refine steps_cons (step_on rfl rfl fun _ w5 hS _ _ _ hval _ _ _ hK=>?_) ?_
      · have e37:_=_:=hval 5 37 (by kernel_rfl) rfl
        replace hS:(VB B) wr w5:=⟨⟨hS.1.os,hS.1.tape,hS.1.output,hS.1.size,hS.1.block⟩,⟨hS.2.os,hS.2.tape,hS.2.output,hS.2.size,hS.2.block⟩⟩
        have hrow5:=(Hv2.out.trans (Hv.out.trans hS)).1.own Hown.out (by decide) (by decide)
        obtain ⟨q0,q1,q2⟩:=shelfL_get G lv m p hpm
        have a0:w5.cell? ⟨g,p*3,none⟩=_:=(World.ownsRow.cellAt hrow5 (p*3) (by omega)).trans q0
        have a1:w5.cell? ⟨g,p*3+1,none⟩=_:=(World.ownsRow.cellAt hrow5 (p*3+1) (by omega)).trans q1
        have a2:w5.cell? ⟨g,p*3+2,none⟩=_:=(World.ownsRow.cellAt hrow5 (p*3+2) (by omega)).trans q2
        go_simp
        exact hK _ _ ((VisK.refl _ _)) rfl
      refine steps_cons (step_on rfl rfl fun ev _ _ _ _ hold _ _ _ _ hK=>?_) ?_
      · have e1:ev (.tmp 1)=.int .i64 (x:Int):=hold 1 (by kernel_rfl)
        go_simp
        exact hK _ _ ((VisK.refl _ _)) rfl
      refine steps_cons (step_on rfl rfl fun ev _ _ _ _ hold _ _ _ _ hK=>?_) ?_
      · have e2:ev (.tmp 2)=.int .i64 (s:Int):=hold 2 (by kernel_rfl)
        go_simp
        exact hK _ _ ((VisK.refl _ _)) rfl
      refine steps_cons (step_on rfl rfl fun ev _ _ _ _ hold _ _ _ _ hK=>?_) ?_
      · have e7:ev (.tmp 7)=.int .i64 (lv:Int):=hold 7 (by kernel_rfl)
        go_simp
        exact hK _ _ ((VisK.refl _ _)) rfl
      refine steps_cons (step_on rfl rfl fun _ w5 _ _ _ _ hval _ _ _ hK=>?_) ?_
      · have e40:_=_:=hval 8 40 (by kernel_rfl) rfl
        have e41:_=_:=hval 9 41 (by kernel_rfl) rfl
        go_simp
        refine (SymBit_any s lv w5 hs hl9).mono ?_
        rintro e w8 ⟨rfl,hb8⟩
        rw [Hb.out]
        exact hK _ _ (VisK.of_below hb8) rfl
      refine steps_cons (step_on rfl rfl fun _ w5 hS _ _ _ hval _ _ _ hK=>?_) ?_
      · have e32:_=_:=hval 0 32 (by kernel_rfl) rfl
        have e38:_=_:=hval 6 38 (by kernel_rfl) rfl
        have e39:_=_:=hval 7 39 (by kernel_rfl) rfl
        have e42:_=_:=hval 10 42 (by kernel_rfl) rfl
        replace hS:(VB B) wr w5:=⟨⟨hS.1.os,hS.1.tape,hS.1.output,hS.1.size,hS.1.block⟩,⟨hS.2.os,hS.2.tape,hS.2.output,hS.2.size,hS.2.block⟩⟩
        go_simp
        obtain ⟨v5,hw5⟩:=(Hv.out.trans hS).1.waveC Hbk.out
        have ht5:=Htr.out.2.vis (Hv2.out.trans (Hv.out.trans hS)).1
        refine (WRank1_any gv (G p) S n v5 lv p (bitsOf L lv p) x b w5 hw5 ht5 Hxl.out).mono ?_
        rintro e w8 ⟨rfl,hv8⟩
        rw [Hxy.out]
        exact hK _ _ (hv8.mono fun b hb=>by rcases hb with rfl | rfl;exact hBg;exact Htr.out.1) rfl
      refine steps_cons (step_on rfl rfl fun _ _ _ _ _ _ hval _ _ _ hK=>?_) ?_
      · have e43:_=_:=hval 11 43 (by kernel_rfl) rfl
        go_simp
        exact hK _ _ ((VisK.refl _ _)) rfl
      exact steps_nil
    · intro ev w6 hS hval
      replace hS:(VB B) wr w6:=⟨⟨hS.1.os,hS.1.tape,hS.1.output,hS.1.size,hS.1.block⟩,⟨hS.2.os,hS.2.tape,hS.2.output,hS.2.size,hS.2.block⟩⟩
      have e1:ev (.tmp 1)=.int .i64 (y:Int):=hval 12 1 rfl
      simp only [putsOf,List.foldl_cons,List.foldl_nil,Act.put,List.setIfInBounds_toArray,List.set_cons_zero,List.set_cons_succ]
      rw [e1]
      clear hval
      have hv6:=Hv.out.trans hS
      go_wp2_with fail
      go_roundw
      case rel=>exact ⟨lv+1,by omega,by go_num,by rw [Hy.out],hv6⟩
      case measure=>simp [intOf];omega
  · have h9:lv=9:=by omega
    subst h9
    rw [H9.out]
    go_wp2_with fail
    go_ret
    exact ⟨rfl,Hv2.out.trans hv⟩
end Go.Proofs.YtipaccakmndkgaaGreatDoor
namespace Go.Proofs.YtipaccakmndkgaaGreatDoor
open Go.RowKit Go Go.Sort
def sufLt (l:List Nat) (p q:Nat):Prop:=∃w,ltW (aN l) w p q
theorem ltW_up {a:Nat→Int} {w w' i j:Nat} (h:ltW a w i j) (hw:w≤w'):ltW a w' i j:=by
 obtain ⟨k,h1,h2⟩:=h
 exact ⟨k,by omega,h2⟩
theorem sufLt.asymm {l:List Nat} {p q:Nat} (h:sufLt l p q) (k:sufLt l q p):False:=by
 obtain ⟨w,h⟩:=h
 obtain ⟨w',k⟩:=k
 exact (ltW_up h (Nat.le_max_left w w')).asymm (ltW_up k (Nat.le_max_right w w'))
theorem sufLt.trans {l:List Nat} {p q r:Nat} (h:sufLt l p q) (k:sufLt l q r):sufLt l p r:=by
 obtain ⟨w,h⟩:=h
 obtain ⟨w',k⟩:=k
 exact ⟨_,(ltW_up h (Nat.le_max_left w w')).trans (ltW_up k (Nat.le_max_right w w'))⟩
theorem sufLt.tri {l:List Nat} {p q:Nat} (hp:p < l.length) (hq:q < l.length) (hpq:p≠q):sufLt l p q∨sufLt l q p:=by
 rcases ltW_tri (a:=aN l) l.length p q with h | h | h
 · exact .inl ⟨_,h⟩
 · exact absurd h (not_eqW (Nat.le_refl _) hp hq hpq)
 · exact .inr ⟨_,h⟩
structure IsSuf (l rs:List Nat):Prop where
 perm:rs.Perm (List.range l.length)
 sorted:rs.Pairwise (sufLt l)
theorem IsSuf.len {l rs:List Nat} (h:IsSuf l rs):rs.length=l.length:=by simpa using h.perm.length_eq
theorem IsSuf.lt {l rs:List Nat} (h:IsSuf l rs) {p:Nat} (hp:p∈rs):p < l.length:=by simpa using h.perm.mem_iff.1 hp
theorem IsSuf.mem {l rs:List Nat} (h:IsSuf l rs) {p:Nat} (hp:p < l.length):p∈rs:=h.perm.mem_iff.2 (by simpa using hp)
theorem IsSuf.nodup {l rs:List Nat} (h:IsSuf l rs):rs.Nodup:=h.perm.nodup_iff.2 List.nodup_range
theorem IsSuf.unique {l rs rs':List Nat} (h:IsSuf l rs) (h':IsSuf l rs'):rs=rs':=by
 refine List.Perm.eq_of_pairwise (le:=sufLt l) ?_ h.sorted h'.sorted (h.perm.trans h'.perm.symm)
 intro a b _ _ h1 h2
 exact (h1.asymm h2).elim
def encF (m:Nat) (x:Fin (m+1)):Value:=.int .i64 ((x.val:Nat):Int)
theorem oneCell_encF (m:Nat) (x:Fin (m+1)):(encF m x).oneCell'=true:=rfl
section
variable {α : Type} [Inhabited α] {enc : α → Value} {w : World} {blk : Nat} {t : TypeId} {d d' : Array α}
theorem getB (d:Array α) (i:Nat) (h:i < d.size):d[i]! =d[i]:=getElem!_pos d i h
theorem putCells_map (hs:d'.size=d.size):putCells enc 0 d' (d.map enc)=d'.map enc:=by
 apply Array.ext
 · simp [putCells,hs]
 · intro i h1 h2
   have hi:i < d'.size:=by simpa using h2
   simp [putCells,hi,getB]
theorem sort_bk (h:Bk w blk t (d.map enc)) (hs:d'.size=d.size) (n:Nat) (os:Array Obj):Bk (sortWorld enc w blk 0 n d' os) blk t (d'.map enc):=by
 have hlt:=h.lt
 unfold Bk at h⊢
 have e:(putRow enc (Sort.ahead w n) blk 0 d').heap[blk]?=some (.cells (d'.map enc) t (0,0)):=by
  show (w.heap.modify blk _)[blk]?=_
  rw [Array.getElem?_modify,if_pos rfl,h]
  simp only [Option.map_some,onCells]
  rw [putCells_map hs]
 unfold sortWorld
 rw [heap_grow_old _ _ (by show blk < (w.heap.modify blk _).size;simpa using hlt)]
 exact e
theorem sort_keep (hb:blk < w.heap.size) (off n:Nat) (d':Array α) (os:Array Obj):Keep (fun b=>b=blk) w (sortWorld enc w blk off n d' os):=by
 refine ⟨rfl,rfl,rfl,?_,fun k hk hn=>?_⟩
 · show w.heap.size≤((w.heap.modify blk _)++os).size
   simp
 · unfold sortWorld
   rw [heap_grow_old _ _ (by show k < (w.heap.modify blk _).size;simpa using hk)]
   show (w.heap.modify blk _)[k]?=_
   rw [Array.getElem?_modify,if_neg (fun e=>hn e.symm)]
theorem bk_holds (h:Bk w blk t (d.map enc)):Holds enc w blk 0 d:=by
 intro j hj
 rw [Nat.zero_add]
 refine ⟨?_,h.frozen j⟩
 rw [h.cell]
 simp [hj,getB]
end
theorem perm_of_in {α:Type} [Inhabited α] {d d':Array α} (h:PermIn 0 d.size d d'):d'.toList.Perm d.toList:=by
 have h2:=h.2.2
 have e1:d'.extract 0 d.size=d':=by
  rw [←h.1]
  exact Array.extract_size
 have e2:d.extract 0 d.size=d:=Array.extract_size
 rwa [e1,e2] at h2
def rowF {m:Nat} (d:Array (Fin (m+1))) (i:Nat):Nat:=(d[i]!).val
structure RowsOk (m:Nat) (d:Array (Fin (m+1))):Prop where
 size:d.size=m+1
 perm:d.toList.Perm (List.finRange (m+1))
theorem rowF_list {m:Nat} {d:Array (Fin (m+1))} {i:Nat} (hi:i < d.size):(d.toList.map (·.val))[i]?=some (rowF d i):=by
 rw [List.getElem?_map,Array.getElem?_toList,Array.getElem?_eq_getElem hi]
 simp [rowF,getB d i hi]
section
variable {m : Nat} {d : Array (Fin (m + 1))}
theorem RowsOk.lt (h:RowsOk m d) (i:Nat):rowF d i < m+1:=(d[i]!).isLt
theorem RowsOk.vals (h:RowsOk m d):(d.toList.map (·.val)).Perm (List.range (m+1)):=by
 have h1:=h.perm.map (·.val)
 have e:(List.finRange (m+1)).map (·.val)=List.range (m+1):=by
  apply List.ext_getElem
  · simp
  · intro i h1 h2
    simp
 rwa [e] at h1
theorem RowsOk.nodup (h:RowsOk m d):(d.toList.map (·.val)).Nodup:=h.vals.nodup_iff.2 List.nodup_range
theorem RowsOk.inj (h:RowsOk m d) {i j:Nat} (hi:i < m+1) (hj:j < m+1) (e:rowF d i=rowF d j):i=j:=by
 refine (List.getElem?_inj (l:=d.toList.map (·.val)) (by simpa [h.size] using hi) h.nodup).1 ?_
 rw [rowF_list (by rw [h.size];exact hi),rowF_list (by rw [h.size];exact hj),e]
theorem RowsOk.sur (h:RowsOk m d) {p:Nat} (hp:p < m+1):∃i,i < m+1∧rowF d i=p:=by
 have h1:p∈d.toList.map (·.val):=h.vals.mem_iff.2 (by simpa using hp)
 obtain ⟨i,hi,he⟩:=List.getElem_of_mem h1
 have hl:i < m+1:=by simpa [h.size] using hi
 refine ⟨i,hl,?_⟩
 have h2:=rowF_list (d:=d) (i:=i) (by rw [h.size];exact hl)
 rw [List.getElem?_eq_getElem hi,he] at h2
 injection h2 with h2
 exact h2.symm
theorem RowsOk.cell (h:RowsOk m d) {i:Nat} (hi:i < m+1):(d.map (encF m))[i]?=some (.int .i64 ((rowF d i:Nat):Int)):=by
 have:i < d.size:=by rw [h.size];exact hi
 simp [encF,rowF,this,getB]
theorem RowsOk.of_perm {d':Array (Fin (m+1))} (h:RowsOk m d) (hp:PermIn 0 d.size d d'):RowsOk m d':=
 ⟨hp.1.trans h.size,(perm_of_in hp).trans h.perm⟩
theorem RowsOk.suf (h:RowsOk m d) {l:List Nat} (hl:l.length=m+1) {w:Nat} (hs:∀i j,i < j→j < m+1→ltW (aN l) w (rowF d i) (rowF d j)):IsSuf l (d.toList.map (·.val)):=by
 refine ⟨by rw [hl];exact h.vals,?_⟩
 rw [List.pairwise_iff_getElem]
 intro i j hi hj hij
 have hi':i < m+1:=by simpa [h.size] using hi
 have hj':j < m+1:=by simpa [h.size] using hj
 have e1:=rowF_list (d:=d) (i:=i) (by rw [h.size];exact hi')
 have e2:=rowF_list (d:=d) (i:=j) (by rw [h.size];exact hj')
 rw [List.getElem?_eq_getElem hi] at e1
 rw [List.getElem?_eq_getElem hj] at e2
 injection e1 with e1
 injection e2 with e2
 rw [e1,e2]
 exact ⟨w,hs i j hij hj'⟩
end
def rows0 (m:Nat):Array (Fin (m+1)):=(List.finRange (m+1)).toArray
theorem rows0_ok (m:Nat):RowsOk m (rows0 m):=⟨by simp [rows0],by simp [rows0]⟩
theorem ranks_of {n:Nat} {cs:Array Value} {f:Nat→Nat} {v:Nat→Nat} (hsz:n≤cs.size) (hf:∀j,j < n→f j < n) (hc:∀j,j < n→cs[f j]?=some (.int .i64 ((v j:Nat):Int))) (hsur:∀p,p < n→∃i,i < n∧f i=p):
 ∃R:List Nat,R.length=n∧(∀j,j < n→R[f j]?=some (v j))∧(∀(j:Nat) u,(R.map sv)[j]?=some u→cs[j]?=some u)∧∀r∈R,∃j,j < n∧r=v j:=by
 let g:Nat→Nat:=fun p=>match cs[p]? with
  | some (.int _ z)=>z.toNat
  | _=>0
 have hg:∀j,j < n→g (f j)=v j:=by
  intro j hj
  show (match cs[f j]? with | some (.int _ z)=>z.toNat | _=>0)=v j
  rw [hc j hj]
  simp
 refine ⟨(List.range n).map g,by simp,fun j hj=>?_,fun j u hu=>?_,fun r hr=>?_⟩
 · simp [hf j hj,hg j hj]
 · have hj:j < n:=by
    have:=(List.getElem?_eq_some_iff.1 hu).1
    simpa using this
   obtain ⟨i,hi,rfl⟩:=hsur j hj
   simp [hf i hi,hg i hi] at hu
   rw [hc i hi,←hu]
   rfl
 · obtain ⟨p,hp,rfl⟩:=List.mem_map.1 hr
   obtain ⟨i,hi,rfl⟩:=hsur p (by simpa using hp)
   exact ⟨i,hi,hg i hi⟩
def cfF (m w:Nat) (R:List Nat) (x y:Fin (m+1)):Int:=ordV (aN R) w x.val y.val
theorem swo_cf {l R:List Nat} {w:Nat} (m:Nat) (h:RankOk (aN l) (aN R) w):SWO (ltOf (cfF m w R)) where
 irrefl x:=by
  unfold ltOf cfF
  rw [decide_eq_false_iff_not,ordV_lt h]
  exact fun h=>h.irrefl
 trans x y z h1 h2:=by
  unfold ltOf cfF at*
  rw [decide_eq_true_iff,ordV_lt h] at*
  exact h1.trans h2
 ntrans x y z h1 h2:=by
  unfold ltOf cfF at*
  rw [decide_eq_false_iff_not,ordV_lt h] at*
  intro h3
  rcases ltW_tri (a:=aN l) (w+w) x.val y.val with h4 | h4 | h4
  · exact h1 h4
  · exact h2 (ltW.eq_left h4.symm h3)
  · exact h2 (h4.trans h3)
theorem sorted_f {l R:List Nat} {w m:Nat} {d:Array (Fin (m+1))} (h:RankOk (aN l) (aN R) w) (hz:d.size=m+1) (hs:SortedIn (ltOf (cfF m w R)) 0 (m+1) d) (i:Nat) (hi:i+1 < m+1):¬ltW (aN l) (w+w) (rowF d (i+1)) (rowF d i):=by
 have h1:=hs i (i+1) (Nat.zero_le _) (by omega) hi
 unfold ltOf cfF at h1
 rw [decide_eq_false_iff_not,ordV_lt h] at h1
 exact h1
end Go.Proofs.YtipaccakmndkgaaGreatDoor
namespace Go.Proofs.YtipaccakmndkgaaGreatDoor
open Go.RowKit Go
section
variable {P : Program} {ops : Array Oper} {Q : Exit → Act → World → Prop} {md : Region.Mode}
theorem wpAny_tail3 (n:Nat) (ds:List Nat) (C:World→Prop) (S:Nat→World→World→Prop) (U:Nat→World→Prop) (V:Nat→Value→World→Prop) (a0:Act)
 (W0:World) (hds:(ops.toList.take n).filterMap (·.dst)=ds) (hn:n≤ops.size) (hlaid:laidB md ops a0.tmps.size=true) (htail:((List.range ops.size).all fun k=>decide (k < n)||(List.range n).all fun i=>upB md ops ops.size k i)=true) (hC0:C W0) (hU0:∀i,U i W0) (hC:∀j w w',j < n→C w→S j w w'→C w')
 (hU:∀i j w w',j < n→i≠j→upB md ops ops.size j i=false→U i w→C w→S j w w'→U i w')
 (hstab:∀i j v w w',j < n→i≠j→aftB md ops i j=false→V i v w→C w→S j w w'→V i v w')
 (hstep:∀j o,j < n→ops[j]?=some o→StepOk3 P ops Q md C S U V a0 j o)
 (hend:∀(ev:Operand→Value) w f,C w→(∀i d,i < n→((ops[i]?).bind (·.dst))=some d→V i (ev (.tmp d)) w)→(∀i,i < n→∃v,V i v w)→wpAny P md ops Q (ops.size - n+f) (firstN n ops.size) (putsOf ev ds a0) w):
 wpAny P md ops Q ops.size (Array.replicate ops.size false) a0 W0:=by
 refine wpAny_tail n C S U V a0 W0 hn hlaid htail hC0 hU0 hC hU hstab hstep fun a w f hS hsz hdf hold hval=>?_
 have h1:=hend a.eval w f hS (fun i d hi hd=>by
  cases ho:ops[i]? with
  | none=>rw [ho] at hd;cases hd
  | some o=>
    rw [ho] at hd
    obtain ⟨v,h1,h2⟩:=hval i o hi ho
    have:=h1 d hd
    change V i (a.tmps.getD d undef) w
    rw [this]
    exact h2) (fun i hi=>by
  obtain ⟨v,_,h2⟩:=hval i _ hi (Array.getElem?_eq_getElem (Nat.lt_of_lt_of_le hi hn))
  exact ⟨v,h2⟩)
 rw [←act_puts a a0 ds hsz hdf fun t ht=>hold t fun k p hk hp hd=>ht ?_] at h1
 · exact h1
 · rw [←hds]
   refine List.mem_filterMap.2 ⟨p,?_,hd⟩
   have hk2:(ops.toList.take n)[k]?=some p:=by
    rw [List.getElem?_take,if_pos hk,Array.getElem?_toList]
    exact hp
   exact List.mem_of_getElem? hk2
end
def VFB (B:Nat) (F:Nat→Prop) (w w':World):Prop:=VisF F w w'∧Keep (fun b=>F b∨B≤b) w w'
section
variable {B : Nat} {F : Nat → Prop} {w w1 w' : World}
theorem VFB.of_vb (h:VB B w w'):VFB B F w w':=⟨VisF.of_vis h.1,h.2.mono fun _ _ f=>.inr f⟩
theorem VFB.trans (h:VFB B F w w1) (k:VFB B F w1 w'):VFB B F w w':=⟨h.1.trans k.1,h.2.trans k.2⟩
theorem VFB.put (h:VFB B F w w1) {p:Addr} (hp:F p.block∨w.heap.size≤p.block) (u:Value):VFB B F w (w1.setCell p u):=⟨VisF.put h.1 hp u,h.2.setCell (hp.elim (fun f=>.inl (.inl f)) .inr) u⟩
theorem VFB.wider {G:Nat→Prop} (h:VFB B F w w') (hf:∀b,F b→G b):VFB B G w w':=⟨⟨h.1.os,h.1.tape,h.1.output,h.1.size,fun b hb hn=>h.1.block b hb (fun f=>hn (hf b f))⟩,h.2.mono fun b _ f=>f.elim (fun f=>.inl (hf b f)) .inr⟩
theorem VFB.to_vb (h:VFB B F w w') (hf:∀b,b < w.heap.size→¬F b):VB B w w':=⟨h.1.to_vis hf,h.2.mono fun b hb f=>f.elim (fun f=>absurd f (hf b hb)) id⟩
end
def VStep (B:Nat) (F:Nat→Prop) (J j:Nat) (w w':World):Prop:=(j=J→VFB B F w w')∧(j≠J→VB B w w')
theorem vstep_any {B:Nat} {F:Nat→Prop} {J j:Nat} {w w':World} (h:VStep B F J j w w'):VFB B F w w':=by
 by_cases hj:j=J
 · exact h.1 hj
 · exact VFB.of_vb (h.2 hj)
theorem vstep_vis {B:Nat} {F:Nat→Prop} {J j:Nat} {w w':World} (h:VB B w w'):VStep B F J j w w':=⟨fun _=>VFB.of_vb h,fun _=>h⟩
theorem vstep_at {B:Nat} {F:Nat→Prop} {J:Nat} {w w':World} (h:VFB B F w w'):VStep B F J J w w':=⟨fun _=>h,fun e=>absurd rfl e⟩
theorem wpAny_vis_tail {P:Program} {ops:Array Oper} {Q:Exit→Act→World→Prop} {md:Region.Mode} (B n:Nat) (ds:List Nat) (F:Nat→Prop) (J:Nat) (rd:List Nat) (pre:World→Prop) (pJ:Value→World→Prop) (l:List (Value→World→Prop)) (a0:Act) (W0:World)
 (hds:(ops.toList.take n).filterMap (·.dst)=ds) (hn:n≤ops.size) (hlaid:laidB md ops a0.tmps.size=true) (htail:((List.range ops.size).all fun k=>decide (k < n)||(List.range n).all fun i=>upB md ops ops.size k i)=true)
 (hrd:(rd.all fun i=>i==J||upB md ops ops.size J i)=true)
 (hp0:pre W0) (hp:∀w w',pre w→VFB B F W0 w→VB B w w'→pre w') (hJ:StbS (VB B) pJ) (hst:∀p∈l,StbS (VFB B F) p)
 (hstep:∀j o,j < n→ops[j]?=some o→StepOk3 P ops Q md (VFB B F W0) (VStep B F J) (fun i w=>rd.contains i=true→pre w) (VsJ J pJ l) a0 j o)
 (hend:∀(ev:Operand→Value) w f,VFB B F W0 w→(∀i d,i < n→((ops[i]?).bind (·.dst))=some d→VsJ J pJ l i (ev (.tmp d)) w)→(∀i,i < n→∃v,VsJ J pJ l i v w)→wpAny P md ops Q (ops.size - n+f) (firstN n ops.size) (putsOf ev ds a0) w):
 wpAny P md ops Q ops.size (Array.replicate ops.size false) a0 W0:=by
 refine wpAny_tail3 n ds (VFB B F W0) (VStep B F J) (fun i w=>rd.contains i=true→pre w) (VsJ J pJ l) a0 W0 hds hn hlaid htail (VFB.of_vb (VisK.refl _ _)) (fun _ _=>hp0) (fun j w w' _ h k=>h.trans (vstep_any k)) (fun i j w w' _ hij hup hi hC k hir=>?_) (fun i j v w w' _ hij _ hv _ k=>?_) hstep hend
 · by_cases hj:j=J
   · exfalso
     subst hj
     have h2:=List.all_eq_true.1 hrd i (by simpa using hir)
     simp only [hup,Bool.or_false,beq_iff_eq] at h2
     exact hij h2
   · exact hp w w' (hi hir) hC (k.2 hj)
 · unfold VsJ at hv⊢
   by_cases hi:i=J
   · rw [if_pos hi] at hv⊢
     exact hJ v w w' hv (k.2 fun e=>hij (hi.trans e.symm))
   · rw [if_neg hi] at hv⊢
     exact stbs_all hst i v w w' hv (vstep_any k)
end Go.Proofs.YtipaccakmndkgaaGreatDoor
namespace Go.Proofs.YtipaccakmndkgaaGreatDoor
open Go.RowKit
@[irreducible] def rowC (T:Nat→Value) (m:Nat):Array Value:=Array.ofFn (n:=m) fun i=>T i.val
theorem rowC_size (T:Nat→Value) (m:Nat):(rowC T m).size=m:=by unfold rowC;simp
theorem rowC_get (T:Nat→Value) (m i:Nat) (h:i < m):(rowC T m)[i]?=some (T i):=by
 unfold rowC
 rw [Array.getElem?_ofFn,dif_pos h]
theorem rowC_set (T:Nat→Value) (m i:Nat) (h:i < m) (v:Value):(rowC T m).setIfInBounds i v=rowC (fun j=>if j=i then v else T j) m:=by
 apply Array.ext_getElem?
 intro j
 rcases Nat.lt_or_ge j m with hj | hj
 · rw [rowC_get _ _ _ hj]
   by_cases e:i=j
   · subst e
     rw [Array.getElem?_setIfInBounds_self_of_lt (by rw [rowC_size];exact h),if_pos rfl]
   · rw [Array.getElem?_setIfInBounds_ne e,rowC_get _ _ _ hj,if_neg (fun x=>e x.symm)]
 · rw [Array.getElem?_eq_none (by simp [rowC_size];exact hj),Array.getElem?_eq_none (by rw [rowC_size];exact hj)]
theorem rowC_const (v:Value) (m:Nat):rowC (fun _=>v) m=Array.replicate m v:=by
 apply Array.ext_getElem?
 intro j
 rcases Nat.lt_or_ge j m with hj | hj
 · rw [rowC_get _ _ _ hj]
   simp [hj]
 · rw [Array.getElem?_eq_none (by rw [rowC_size];exact hj),Array.getElem?_eq_none (by simpa using hj)]
structure Bits (w:World) (B gB m:Nat) (T:Nat→Value) (R:Nat→List Bool):Prop where
 blk:Bk w gB 209 (rowC T m)
 own:∀p,p < m→w.ownsRow B 4 1 (T p) (R p).length ((R p).map Value.bool)
 apart:∀p q,p < m→q < m→p≠q→∀b,(T p).ownBlock=some b→(T q).ownBlock≠some b
theorem Bits.same {w w':World} {B gB m:Nat} {T:Nat→Value} {R:Nat→List Bool} (h:Bits w B gB m T R) (k1:∀b cs,Bk w b 209 cs→Bk w' b 209 cs) (k2:∀b cs,Bk w b 4 cs→Bk w' b 4 cs):Bits w' B gB m T R:=
 ⟨k1 _ _ h.blk,fun p hp=>own_same (h.own p hp) fun b cs _ hb=>k2 b cs hb,h.apart⟩
theorem Bits.below {w w':World} {B gB m:Nat} {T:Nat→Value} {R:Nat→List Bool} (h:Bits w B gB m T R) (k:Below w.heap.size w w'):Bits w' B gB m T R:=h.same (fun b cs hb=>hb.below k hb.lt) (fun b cs hb=>hb.below k hb.lt)
theorem Bits.start (w:World) (B gB m:Nat) (h:Bk w gB 209 (rowC (fun _=>.slice none 0 0) m)):Bits w B gB m (fun _=>.slice none 0 0) (fun _=> []):=
 ⟨h,fun p hp=>World.ownsRow_nil _ _ _ _,fun p q _ _ _ b hb=>by simp [Value.ownBlock] at hb⟩
theorem Bits.push {w w1:World} {B gB m p:Nat} {T:Nat→Value} {R:Nat→List Bool} {v:Value} {b:Bool} (h:Bits w B gB m T R) (hp:p < m) (k:Keep (fun b=>(T p).ownBlock=some b) w w1)
 (ho:w1.ownsRow B 4 1 v ((R p).length+1) ((R p).map Value.bool++ [.bool b])) (ha:v.ownBlock=(T p).ownBlock∨∃g,v.ownBlock=some g∧w.heap.size≤g):
 Bits (w1.setCell ⟨gB,p,none⟩ v) B gB m (fun j=>if j=p then v else T j) (fun j=>if j=p then R p++ [b] else R j):=by
 have hne:(T p).ownBlock≠some gB:=by
  intro e
  exact own_bk_ne (h.own p hp) h.blk (by decide) e.symm
 have hb1:=k.bk h.blk hne
 have hset:∀g cs,Bk w1 g 4 cs→Bk (w1.setCell ⟨gB,p,none⟩ v) g 4 cs:=fun g cs hg=>hg.far (Bk.ne hg hb1 (by decide)) _
 refine ⟨?_,fun q hq=>?_,fun q r hq hr hqr b' hb'=>?_⟩
 · rw [←rowC_set T m p hp v]
   exact hb1.set p v
 · by_cases e:q=p
   · subst e
     rw [if_pos rfl,if_pos rfl,List.length_append,List.map_append]
     exact own_same ho fun g cs _ hg=>hset g cs hg
   · rw [if_neg e,if_neg e]
     refine own_same (h.own q hq) fun g cs hg hgb=>hset g cs (k.bk hgb ?_)
     exact fun x=>h.apart q p hq hp e g hg x
 · have lt:∀q,q < m→∀x,(T q).ownBlock=some x→x < w.heap.size:=fun q hq x hx=>((h.own q hq).lt x hx).2
   have hv:∀q,q < m→q≠p→∀x,v.ownBlock=some x→(T q).ownBlock≠some x:=by
    intro q hq hqp x hx hy
    rcases ha with ha |⟨g,hg,hge⟩
    · rw [ha] at hx
      exact h.apart p q hp hq (fun e=>hqp e.symm) x hx hy
    · rw [hg] at hx
      cases hx
      have:=lt q hq _ hy
      omega
   by_cases e1:q=p
   · subst e1
     rw [if_pos rfl] at hb'
     rw [if_neg (fun e=>hqr e.symm)]
     exact hv r hr (fun e=>hqr e.symm) b' hb'
   · rw [if_neg e1] at hb'
     by_cases e2:r=p
     · subst e2
       rw [if_pos rfl]
       intro hx
       exact hv q hq e1 b' hx hb'
     · rw [if_neg e2]
       exact h.apart q r hq hr hqr b' hb'
theorem bits_snoc (L:List Nat) (s lv p:Nat):bitsOf (L++ [s]) lv p=if p=pathN s lv then bitsOf L lv p++ [bitB s lv] else bitsOf L lv p:=by
 unfold bitsOf
 rw [List.filter_append,List.map_append]
 by_cases e:p=pathN s lv
 · rw [if_pos e]
   simp [e]
 · rw [if_neg e]
   have:(pathN s lv==p)=false:=by simp;omega
   simp [this]
theorem Bits.congr {w:World} {B gB m:Nat} {T:Nat→Value} {R R':Nat→List Bool} (h:Bits w B gB m T R) (e:∀p,p < m→R p=R' p):Bits w B gB m T R':=
 ⟨h.blk,fun p hp=>by rw [←e p hp];exact h.own p hp,h.apart⟩
theorem own_ty {w:World} {base:Nat} {e:TypeId} {sz n b:Nat} {v:Value} {xs:List Value} (h:w.ownsRow base e sz v n xs) (hb:v.ownBlock=some b):∃cs,Bk w b e cs:=by
 rcases h.2 with ⟨rfl,_⟩|⟨g,cap,cur,rfl,_,hg,_⟩
 · simp [Value.ownBlock] at hb
 · have e1:g=b:=by simpa [Value.ownBlock] using hb
   subst e1
   exact ⟨cur,hg⟩
theorem TreeAt.keepT {w w':World} {F:Nat→Prop} {gt:Nat} {bs:List Bool} (h:TreeAt w gt bs) (k:Keep F w w') (hf:∀b,F b→∃t cs,Bk w b t cs∧(t=174∨t=177)):TreeAt w' gt bs:=by
 refine h.same fun b t cs hin hb=>k.bk hb fun hF=>?_
 obtain ⟨t',cs',hb',ht⟩:=hf b hF
 have e:=(bk_inj hb hb').1
 subst e
 rcases ht with rfl | rfl
 · exact absurd hin (by decide)
 · exact absurd hin (by decide)
theorem ShelfRow.keepW {w w':World} {gv B:Nat} {cs:Array Value} {v:Value} {L:List Nat} {lv m:Nat} (h:ShelfRow w B v L lv m) (k:Keep (fun b=>b=gv) w w') (hw:Bk w gv 174 cs):ShelfRow w' B v L lv m:=by
 obtain ⟨G,h1,h2⟩:=h
 refine ⟨G,own_same h1 fun b cs _ hb=>k.bk hb fun e=>?_,fun p hp=>⟨(h2 p hp).1,(h2 p hp).2.keepT k fun b e=>by
  have e':b=gv:=e
  subst e'
  exact ⟨_,cs,hw,.inl rfl⟩⟩⟩
 have e':b=gv:=e
 subst e'
 exact absurd (bk_inj hb hw).1 (by decide)
theorem ShelfRow.mono {w:World} {B B':Nat} {v:Value} {L:List Nat} {lv m:Nat} (h:ShelfRow w B v L lv m) (hB:B'≤B):ShelfRow w B' v L lv m:=by
 obtain ⟨G,h1,h2⟩:=h
 exact ⟨G,own_mono h1 hB,fun p hp=>⟨Nat.le_trans hB (h2 p hp).1,(h2 p hp).2⟩⟩
end Go.Proofs.YtipaccakmndkgaaGreatDoor
