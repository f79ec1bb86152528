/- The walk of the tally's Add of -1. Conditions: the symbol stands there. The walks of the two closures of sorted.Rows. Conditions: at most 1000 symbols, numbers up to 1000. Plain laws of the wave: paths, bits, ranks; what a wave is (WaveAt). No conditions. Plain laws for sorted.Rows: the sorted list of a text's suffixes (IsSuf, and that there is one), the sort's world, the array of rows. No conditions. -/
import Derived.Test.YtipaccakmndkgaaGreatPwa10
import Derived.Test.YtipaccakmndkgaaGreatPwa12
import Derived.BigQuiet
import Derived.Test.YtipaccakmndkgaaGreatPwa5
import Derived.Test.YtipaccakmndkgaaGreatPwa7
import Derived.Shelf.SlSortCmp.Kit1
namespace Go.Proofs.YtipaccakmndkgaaGreat
open Go.RowKit
set_option linter.unusedVariables false
set_option linter.unusedSimpArgs false
theorem tcells_perm {L L':List Nat} (h:L.Perm L'):tcells L=tcells L':=by
 refine tcells_ext _ _ (tcells_size L) (fun s hs=>?_) ?_
 · rw [tcells_of L hs,h.count_eq]
 · rw [tcells_all,h.length_eq]
end Go.Proofs.YtipaccakmndkgaaGreat
namespace Go.Proofs.YtipaccakmndkgaaGreat
open Go.RowKit
set_option linter.unusedVariables false
set_option linter.unusedSimpArgs false
structure OrdAt (W:World) (gw gn gr:Nat) (w n:Nat) (A:Option Addr) (c:Nat) (R:List Nat):Prop where
 wide:W.cell? ⟨gw,0,none⟩=some (.int .i64 (w:Int))
 len:W.cell? ⟨gn,0,none⟩=some (.int .i64 (n:Int))
 rank:W.cell? ⟨gr,0,none⟩=some (.slice A n c)
 rd:Rd W W.heap.size 1 A n (R.map sv)
theorem OrdAt.drewN {W:World} {gw gn gr w n c:Nat} {A:Option Addr} {R:List Nat} (h:OrdAt W gw gn gr w n A c R) (q:Nat):OrdAt (W.drewN q) gw gn gr w n A c R:=⟨h.wide,h.len,h.rank,h.rd⟩
theorem OrdAt.at {W:World} {gw gn gr w n c:Nat} {A:Option Addr} {R:List Nat} (h:OrdAt W gw gn gr w n A c R) {i:Nat} (hi:i < n):∃(b off x:Nat),A=some ⟨b,off,none⟩∧R[i]?=some x∧W.cell? ⟨b,off+i,none⟩=some (.int .i64 (x:Int)):=by
 obtain ⟨b,off,u,rfl,hbl,hu,hc⟩:=h.rd.get hi
 rw [List.getElem?_map] at hu
 obtain ⟨x,hx,rfl⟩:=Option.map_eq_some_iff.1 hu
 exact ⟨b,off,x,rfl,hx,hc⟩
set_option maxRecDepth 100000 in
theorem Rows1_any (gw gn gr w n c:Nat) (A:Option Addr) (R:List Nat) (i:Nat) (W:World) (h:OrdAt W gw gn gr w n A c R) (hw:w≤1000) (hn:n≤1000) (hi:i < n):
 Calls Tryz.prog 42 #[.int .i64 (i:Int),.pointer (some ⟨gw,0,none⟩),.pointer (some ⟨gn,0,none⟩),.pointer (some ⟨gr,0,none⟩)] W fun e w'=>e=.returned (.int .i64 (aN R (i+w)))∧∃q,w'=W.drewN q:=by
 have hRl:R.length=n:=by simpa using h.rd.1
 have c0:=h.wide
 have c1:=h.len
 have c2:=h.rank
 by_cases hlt:i+w < n
 · have hltI:(i:Int)+(w:Int) < (n:Int):=by omega
   obtain ⟨b,off,x,rfl,hx,hc⟩:=h.at hlt
   have hfin:=aN_some hx
   have HF:=Lib.hid hfin
   clear hx h hfin
   go_enter Tryz.func42,Tryz.ntmps42
   go_wp2
   go_ret
   exact ⟨by rw [HF.out];first | rfl | simp_all,0,rfl⟩
 · have hltI:¬((i:Int)+(w:Int) < (n:Int)):=by omega
   have hfin:=aN_ge (l:=R) (p:=i+w) (by omega)
   have HF:=Lib.hid hfin
   clear h hfin
   go_enter Tryz.func42,Tryz.ntmps42
   go_wp2
   go_ret
   exact ⟨by rw [HF.out];rfl,0,rfl⟩
set_option maxRecDepth 100000 in
set_option maxHeartbeats 1000000 in
theorem Rows2_any (gw gn gr gb w n c:Nat) (A:Option Addr) (R:List Nat) (x y:Nat) (W:World) (h:OrdAt W gw gn gr w n A c R) (hb:W.cell? ⟨gb,0,none⟩=some (.func (.func 42) #[] #[.pointer (some ⟨gw,0,none⟩),.pointer (some ⟨gn,0,none⟩),.pointer (some ⟨gr,0,none⟩)])) (hw:w≤1000) (hn:n≤1000) (hR:∀r∈R,r≤1000) (hx:x < n) (hy:y < n):
 Calls Tryz.prog 43 #[.int .i64 (x:Int),.int .i64 (y:Int),.pointer (some ⟨gr,0,none⟩),.pointer (some ⟨gb,0,none⟩)] W fun e w'=>e=.returned (.int .i64 (ordV (aN R) w x y))∧∃q,w'=W.drewN q:=by
 have c2:=h.rank
 have H:=Lib.hid h
 obtain ⟨b,off,p,hA,hp,hcp⟩:=h.at hx
 obtain ⟨b',off',q,hA',hq,hcq⟩:=h.at hy
 rw [hA] at hA'
 injection hA' with hA'
 injection hA' with e1 e2
 subst e1 e2
 have hp1:=hR p (List.mem_of_getElem? hp)
 have hq1:=hR q (List.mem_of_getElem? hq)
 have ep:=aN_some hp
 have eq:=aN_some hq
 have bound:∀i,-1≤aN R i∧aN R i≤1000:=by
  intro i
  unfold aN
  split
  · next z hz=>
    have:=hR z (List.mem_of_getElem? hz)
    omega
  · omega
 have b1:=bound (x+w)
 have b2:=bound (y+w)
 have hov:ordV (aN R) w x y=if (p:Int)≠(q:Int) then (p:Int) -(q:Int) else aN R (x+w) - aN R (y+w):=by
  unfold ordV
  rw [ep,eq]
 obtain ⟨u,hu⟩:∃u,aN R (x+w)=u:=⟨_,rfl⟩
 obtain ⟨v,hv⟩:∃v,aN R (y+w)=v:=⟨_,rfl⟩
 rw [hu,hv] at hov
 rw [hu] at b1
 rw [hv] at b2
 rw [hov]
 subst hA
 have Hu:=Lib.hid hu
 have Hv:=Lib.hid hv
 clear h hp hq ep eq bound hov hu hv hR
 by_cases hpq:p=q
 · subst hpq
   rw [if_neg (by simp)]
   go_enter Tryz.func43,Tryz.ntmps43
   go_wp2
   go_quiet (fail)
   go_wp2
   have k1:∀m:Nat,Calls Tryz.prog 42 #[.int .i64 (x:Int),.pointer (some ⟨gw,0,none⟩),.pointer (some ⟨gn,0,none⟩),.pointer (some ⟨gr,0,none⟩)] (W.drewN (nq+m)) fun e w''=>e=.returned (.int .i64 u)∧∃n,w''=W.drewN (nq+n):=fun m=>by
    have h:=Rows1_any gw gn gr w n c _ R x (W.drewN (nq+m)) (H.out.drewN _) hw hn hx
    rw [Hu.out] at h
    exact h.mono fun _ _ ⟨he,q,hq⟩=>⟨he,m+q,by rw [hq,World.drewN_drewN,Nat.add_assoc]⟩
   have k2:∀m:Nat,Calls Tryz.prog 42 #[.int .i64 (y:Int),.pointer (some ⟨gw,0,none⟩),.pointer (some ⟨gn,0,none⟩),.pointer (some ⟨gr,0,none⟩)] (W.drewN (nq+m)) fun e w''=>e=.returned (.int .i64 v)∧∃n,w''=W.drewN (nq+n):=fun m=>by
    have h:=Rows1_any gw gn gr w n c _ R y (W.drewN (nq+m)) (H.out.drewN _) hw hn hy
    rw [Hv.out] at h
    exact h.mono fun _ _ ⟨he,q,hq⟩=>⟨he,m+q,by rw [hq,World.drewN_drewN,Nat.add_assoc]⟩
   have h64:IntKind.i64.wrap (u - v)=u - v:=by rw [IntKind.wrap_i64];omega
   go_quiet ((first |(with_reducible exact k1 _)|(with_reducible exact k2 _)))
   go_wp2
   go_ret
   exact ⟨ret_i64 (by first | omega | rfl),_,World.drewN_drewN _ _ _⟩
 · have hpI:¬((p:Int)=(q:Int)):=by omega
   rw [if_pos hpI]
   go_enter Tryz.func43,Tryz.ntmps43
   go_wp2
   go_quiet (fail)
   go_wp2
   go_quiet (fail)
   go_wp2
   go_ret
   exact ⟨ret_i64 (by omega),_,World.drewN_drewN _ _ _⟩
end Go.Proofs.YtipaccakmndkgaaGreat
namespace Go.Proofs.YtipaccakmndkgaaGreat
open Go.RowKit
set_option linter.unusedVariables false
set_option linter.unusedSimpArgs false
def bitsOf (L:List Nat) (lv p:Nat):List Bool:=(L.filter fun s=>pathN s lv==p).map (bitB · lv)
theorem path_step (s lv:Nat) (h:lv < 9):pathN s (lv+1)=2*pathN s lv+(if bitB s lv then 1 else 0):=by
 unfold pathN bitB
 have e1:9 -(lv+1)=8 - lv:=by omega
 have e2:9 - lv=(8 - lv)+1:=by omega
 rw [e1,e2,Nat.pow_succ,←Nat.div_div_eq_div_mul]
 generalize s / 2 ^(8 - lv)=q
 by_cases hq:q % 2=1
 · simp [hq];omega
 · simp [hq];omega
theorem path_zero (s:Nat) (h:s < 257):pathN s 0=0:=by
 unfold pathN
 exact Nat.div_eq_of_lt (by omega)
theorem path_nine (s:Nat):pathN s 9=s:=by
 unfold pathN
 simp
theorem path_lt (s lv:Nat) (h:s < 257) (hl:lv≤9):pathN s lv < 2 ^ lv:=by
 unfold pathN
 rw [Nat.div_lt_iff_lt_mul (Nat.pos_of_ne_zero (by simp)),←Nat.pow_add,show lv+(9 - lv)=9 by omega]
 omega
theorem bits_count (L:List Nat) (lv s0:Nat) (h:lv < 9):(bitsOf L lv (pathN s0 lv)).count (bitB s0 lv)=L.countP (fun s=>pathN s (lv+1)==pathN s0 (lv+1)):=by
 induction L with
 | nil=>rfl
 | cons x l ih=>
   have h1:=path_step x lv h
   have h2:=path_step s0 lv h
   unfold bitsOf at ih⊢
   rw [List.countP_cons,←ih,List.filter_cons]
   by_cases hp:pathN x lv=pathN s0 lv
   · rw [if_pos (by simp [hp]),List.map_cons,List.count_cons]
     by_cases hb:bitB x lv=bitB s0 lv
     · have:pathN x (lv+1)=pathN s0 (lv+1):=by rw [h1,h2,hp,hb]
       simp [hb,this]
     · have:pathN x (lv+1)≠pathN s0 (lv+1):=by
         rw [h1,h2,hp]
         cases hx:bitB x lv <;> cases hy:bitB s0 lv <;> simp_all
       simp [hb,this]
   · rw [if_neg (by simp [hp])]
     have:pathN x (lv+1)≠pathN s0 (lv+1):=by
        rw [h1,h2]
        cases bitB x lv <;> cases bitB s0 lv <;> simp <;> omega
     simp [this]
theorem bits_take (L:List Nat) (lv p k:Nat):(bitsOf L lv p).take ((L.take k).countP fun s=>pathN s lv==p)=bitsOf (L.take k) lv p:=by
 induction L generalizing k with
 | nil=>simp [bitsOf]
 | cons x l ih=>
   rcases k with _ | k
   · simp [bitsOf]
   · have:=ih k
     unfold bitsOf at this⊢
     rw [List.take_succ_cons,List.countP_cons,List.filter_cons,List.filter_cons]
     by_cases hp:pathN x lv=p
     · simp only [hp,beq_self_eq_true,if_true,List.map_cons,List.take_succ_cons,this]
     · have h0:(pathN x lv==p)=false:=by simp [hp]
       simp only [h0,Bool.false_eq_true,if_false,Nat.add_zero,this]
theorem bits_len (L:List Nat) (lv p:Nat):(bitsOf L lv p).length=L.countP fun s=>pathN s lv==p:=by
 unfold bitsOf
 rw [List.length_map,List.countP_eq_length_filter]
def atLv (L:List Nat) (k s0 lv:Nat):Nat:=(L.take k).countP fun s=>pathN s lv==pathN s0 lv
theorem atLv_zero (L:List Nat) (k s0:Nat) (hk:k≤L.length) (hL:∀s∈L,s < 257) (hs:s0 < 257):atLv L k s0 0=k:=by
 unfold atLv
 rw [List.countP_eq_length.2 (fun s hs'=>by
  have:=hL s (List.mem_of_mem_take hs')
  simp [path_zero _ this,path_zero _ hs]),List.length_take]
 omega
theorem atLv_step (L:List Nat) (k s0 lv:Nat) (h:lv < 9):((bitsOf L lv (pathN s0 lv)).take (atLv L k s0 lv)).count (bitB s0 lv)=atLv L k s0 (lv+1):=by
 unfold atLv
 rw [bits_take,bits_count _ _ _ h]
theorem atLv_le (L:List Nat) (k s0 lv:Nat):atLv L k s0 lv≤(bitsOf L lv (pathN s0 lv)).length:=by
 unfold atLv
 rw [bits_len]
 exact (List.take_sublist k L).countP_le
theorem atLv_nine (L:List Nat) (k s0:Nat):atLv L k s0 9=(L.take k).count s0:=by
 unfold atLv
 rw [List.count_eq_countP]
 congr 1
 funext s
 rw [path_nine,path_nine]
def shelfL (G:Nat→Nat) (lv m:Nat):List Value:=(List.range m).flatMap fun p=> [.pointer (some ⟨G p,0,none⟩),.int .i64 (lv:Int),.int .i64 (p:Int)]
theorem shelfL_succ (G:Nat→Nat) (lv m:Nat):shelfL G lv (m+1)=shelfL G lv m++ [.pointer (some ⟨G m,0,none⟩),.int .i64 (lv:Int),.int .i64 (m:Int)]:=by
 unfold shelfL
 rw [List.range_succ,List.flatMap_append]
 simp
theorem shelfL_len (G:Nat→Nat) (lv m:Nat):(shelfL G lv m).length=m*3:=by
 induction m with
 | zero=>rfl
 | succ m ih=>rw [shelfL_succ,List.length_append,ih];simp;omega
theorem shelfL_get (G:Nat→Nat) (lv m p:Nat) (h:p < m):(shelfL G lv m)[p*3]?=some (.pointer (some ⟨G p,0,none⟩))∧(shelfL G lv m)[p*3+1]?=some (.int .i64 (lv:Int))∧(shelfL G lv m)[p*3+2]?=some (.int .i64 (p:Int)):=by
 induction m with
 | zero=>omega
 | succ m ih=>
   rw [shelfL_succ]
   by_cases e:p=m
   · subst e
     have hl:=shelfL_len G lv p
     refine ⟨?_,?_,?_⟩
     · rw [List.getElem?_append_right (by omega),hl,Nat.sub_self];rfl
     · rw [List.getElem?_append_right (by omega),hl,show p*3+1 - p*3=1 by omega];rfl
     · rw [List.getElem?_append_right (by omega),hl,show p*3+2 - p*3=2 by omega];rfl
   · have hl:=shelfL_len G lv m
     obtain ⟨h1,h2,h3⟩:=ih (by omega)
     refine ⟨?_,?_,?_⟩
     · rw [List.getElem?_append_left (by omega)];exact h1
     · rw [List.getElem?_append_left (by omega)];exact h2
     · rw [List.getElem?_append_left (by omega)];exact h3
theorem shelfL_congr (G G':Nat→Nat) (lv m:Nat) (h:∀p,p < m→G p=G' p):shelfL G lv m=shelfL G' lv m:=by
 induction m with
 | zero=>rfl
 | succ m ih=>rw [shelfL_succ,shelfL_succ,ih (fun p hp=>h p (by omega)),h m (by omega)]
def ShelfRow (w:World) (B:Nat) (v:Value) (L:List Nat) (lv m:Nat):Prop:=
 ∃(G:Nat→Nat),w.ownsRow B 84 3 v m (shelfL G lv m)∧∀p,p < m→B≤G p∧TreeAt w (G p) (bitsOf L lv p)
theorem ShelfRow.vis {w w':World} {B:Nat} {v:Value} {L:List Nat} {lv m:Nat} (h:ShelfRow w B v L lv m) (k:Vis w w'):ShelfRow w' B v L lv m:=by
 obtain ⟨G,h1,h2⟩:=h
 exact ⟨G,k.own h1 (by decide) (by decide),fun p hp=>⟨(h2 p hp).1,(h2 p hp).2.vis k⟩⟩
theorem ShelfRow.below {w w':World} {B:Nat} {v:Value} {L:List Nat} {lv m:Nat} (h:ShelfRow w B v L lv m) (k:Below w.heap.size w w'):ShelfRow w' B v L lv m:=h.vis (Vis.of_below k)
def WaveAt (w:World) (B gv:Nat) (L:List Nat):Prop:=
 B≤gv∧∃(S:Nat→Value) (v:Int),Bk w gv 81 (wcells S (L.length:Int) v)∧∀lv,lv < 9→ShelfRow w B (S lv) L lv (2 ^ lv)
theorem WaveAt.vis {w w':World} {B gv:Nat} {L:List Nat} (h:WaveAt w B gv L) (k:Vis w w'):WaveAt w' B gv L:=by
 obtain ⟨h0,S,v,h1,h2⟩:=h
 obtain ⟨v',h3⟩:=k.waveC h1
 exact ⟨h0,S,v',h3,fun lv hl=>(h2 lv hl).vis k⟩
theorem WaveAt.below {w w':World} {B gv:Nat} {L:List Nat} (h:WaveAt w B gv L) (k:Below w.heap.size w w'):WaveAt w' B gv L:=h.vis (Vis.of_below k)
abbrev VB (B:Nat):World→World→Prop:=VisK (fun b=>B≤b)
theorem VB.to_below {B:Nat} {w w':World} (h:VB B w w') (hB:B≤w.heap.size):Below B w w':=h.2.to_below hB (fun b hb f=>by have:=f;omega)
theorem VB.set_wave {w:World} {B g:Nat} {cs:Array Value} (h:Bk w g 81 cs) (hB:B≤g) (v:Int):VB B w (w.setCell ⟨g,10,none⟩ (.int .i64 v)):=⟨Vis.set_wave h v,Keep.setCell (F:=fun b=>B≤b) (Keep.refl _ _) (p:=⟨g,10,none⟩) (.inl hB) _⟩
end Go.Proofs.YtipaccakmndkgaaGreat
namespace Go.Proofs.YtipaccakmndkgaaGreat
open Go.RowKit Go Go.Sort
set_option linter.unusedVariables false
set_option linter.unusedSimpArgs false
def sufLt (l:List Nat) (p q:Nat):Prop:=∃w,ltW (aN l) w p q
theorem ltW_up {a:Nat→Int} {w w' i j:Nat} (h:ltW a w i j) (hw:w≤w'):ltW a w' i j:=by
 obtain ⟨k,h1,h2⟩:=h
 exact ⟨k,by omega,h2⟩
theorem sufLt.asymm {l:List Nat} {p q:Nat} (h:sufLt l p q) (k:sufLt l q p):False:=by
 obtain ⟨w,h⟩:=h
 obtain ⟨w',k⟩:=k
 exact (ltW_up h (Nat.le_max_left w w')).asymm (ltW_up k (Nat.le_max_right w w'))
theorem sufLt.trans {l:List Nat} {p q r:Nat} (h:sufLt l p q) (k:sufLt l q r):sufLt l p r:=by
 obtain ⟨w,h⟩:=h
 obtain ⟨w',k⟩:=k
 exact ⟨_,(ltW_up h (Nat.le_max_left w w')).trans (ltW_up k (Nat.le_max_right w w'))⟩
structure IsSuf (l rs:List Nat):Prop where
 perm:rs.Perm (List.range l.length)
 sorted:rs.Pairwise (sufLt l)
theorem IsSuf.len {l rs:List Nat} (h:IsSuf l rs):rs.length=l.length:=by simpa using h.perm.length_eq
theorem IsSuf.lt {l rs:List Nat} (h:IsSuf l rs) {p:Nat} (hp:p∈rs):p < l.length:=by simpa using h.perm.mem_iff.1 hp
theorem IsSuf.mem {l rs:List Nat} (h:IsSuf l rs) {p:Nat} (hp:p < l.length):p∈rs:=h.perm.mem_iff.2 (by simpa using hp)
theorem IsSuf.nodup {l rs:List Nat} (h:IsSuf l rs):rs.Nodup:=h.perm.nodup_iff.2 List.nodup_range
theorem IsSuf.unique {l rs rs':List Nat} (h:IsSuf l rs) (h':IsSuf l rs'):rs=rs':=by
 refine List.Perm.eq_of_pairwise (le:=sufLt l) ?_ h.sorted h'.sorted (h.perm.trans h'.perm.symm)
 intro a b _ _ h1 h2
 exact (h1.asymm h2).elim
def encF (m:Nat) (x:Fin (m+1)):Value:=.int .i64 ((x.val:Nat):Int)
theorem oneCell_encF (m:Nat) (x:Fin (m+1)):(encF m x).oneCell'=true:=rfl
section
variable {α : Type} [Inhabited α] {enc : α → Value} {w : World} {blk : Nat} {t : TypeId} {d d' : Array α}
theorem getB (d:Array α) (i:Nat) (h:i < d.size):d[i]! =d[i]:=getElem!_pos d i h
theorem putCells_map (hs:d'.size=d.size):putCells enc 0 d' (d.map enc)=d'.map enc:=by
 apply Array.ext
 · simp [putCells,hs]
 · intro i h1 h2
   have hi:i < d'.size:=by simpa using h2
   simp [putCells,hi,getB]
theorem sort_bk (h:Bk w blk t (d.map enc)) (hs:d'.size=d.size) (n:Nat) (os:Array Obj):Bk (sortWorld enc w blk 0 n d' os) blk t (d'.map enc):=by
 have hlt:=h.lt
 unfold Bk at h⊢
 have e:(putRow enc (Sort.ahead w n) blk 0 d').heap[blk]?=some (.cells (d'.map enc) t (0,0)):=by
  show (w.heap.modify blk _)[blk]?=_
  rw [Array.getElem?_modify,if_pos rfl,h]
  simp only [Option.map_some,onCells]
  rw [putCells_map hs]
 unfold sortWorld
 rw [heap_grow_old _ _ (by show blk < (w.heap.modify blk _).size;simpa using hlt)]
 exact e
theorem sort_keep (hb:blk < w.heap.size) (off n:Nat) (d':Array α) (os:Array Obj):Keep (fun b=>b=blk) w (sortWorld enc w blk off n d' os):=by
 refine ⟨rfl,rfl,rfl,?_,fun k hk hn=>?_⟩
 · show w.heap.size≤((w.heap.modify blk _)++os).size
   simp
 · unfold sortWorld
   rw [heap_grow_old _ _ (by show k < (w.heap.modify blk _).size;simpa using hk)]
   show (w.heap.modify blk _)[k]?=_
   rw [Array.getElem?_modify,if_neg (fun e=>hn e.symm)]
theorem bk_holds (h:Bk w blk t (d.map enc)):Holds enc w blk 0 d:=by
 intro j hj
 rw [Nat.zero_add]
 refine ⟨?_,h.frozen j⟩
 rw [h.cell]
 simp [hj,getB]
end
theorem perm_of_in {α:Type} [Inhabited α] {d d':Array α} (h:PermIn 0 d.size d d'):d'.toList.Perm d.toList:=by
 have h2:=h.2.2
 have e1:d'.extract 0 d.size=d':=by
  rw [←h.1]
  exact Array.extract_size
 have e2:d.extract 0 d.size=d:=Array.extract_size
 rwa [e1,e2] at h2
def rowF {m:Nat} (d:Array (Fin (m+1))) (i:Nat):Nat:=(d[i]!).val
structure RowsOk (m:Nat) (d:Array (Fin (m+1))):Prop where
 size:d.size=m+1
 perm:d.toList.Perm (List.finRange (m+1))
theorem rowF_list {m:Nat} {d:Array (Fin (m+1))} {i:Nat} (hi:i < d.size):(d.toList.map (·.val))[i]?=some (rowF d i):=by
 rw [List.getElem?_map,Array.getElem?_toList,Array.getElem?_eq_getElem hi]
 simp [rowF,getB d i hi]
section
variable {m : Nat} {d : Array (Fin (m + 1))}
theorem RowsOk.lt (h:RowsOk m d) (i:Nat):rowF d i < m+1:=(d[i]!).isLt
theorem RowsOk.vals (h:RowsOk m d):(d.toList.map (·.val)).Perm (List.range (m+1)):=by
 have h1:=h.perm.map (·.val)
 have e:(List.finRange (m+1)).map (·.val)=List.range (m+1):=by
  apply List.ext_getElem
  · simp
  · intro i h1 h2
    simp
 rwa [e] at h1
theorem RowsOk.nodup (h:RowsOk m d):(d.toList.map (·.val)).Nodup:=h.vals.nodup_iff.2 List.nodup_range
theorem RowsOk.inj (h:RowsOk m d) {i j:Nat} (hi:i < m+1) (hj:j < m+1) (e:rowF d i=rowF d j):i=j:=by
 refine (List.getElem?_inj (l:=d.toList.map (·.val)) (by simpa [h.size] using hi) h.nodup).1 ?_
 rw [rowF_list (by rw [h.size];exact hi),rowF_list (by rw [h.size];exact hj),e]
theorem RowsOk.sur (h:RowsOk m d) {p:Nat} (hp:p < m+1):∃i,i < m+1∧rowF d i=p:=by
 have h1:p∈d.toList.map (·.val):=h.vals.mem_iff.2 (by simpa using hp)
 obtain ⟨i,hi,he⟩:=List.getElem_of_mem h1
 have hl:i < m+1:=by simpa [h.size] using hi
 refine ⟨i,hl,?_⟩
 have h2:=rowF_list (d:=d) (i:=i) (by rw [h.size];exact hl)
 rw [List.getElem?_eq_getElem hi,he] at h2
 injection h2 with h2
 exact h2.symm
theorem RowsOk.cell (h:RowsOk m d) {i:Nat} (hi:i < m+1):(d.map (encF m))[i]?=some (.int .i64 ((rowF d i:Nat):Int)):=by
 have:i < d.size:=by rw [h.size];exact hi
 simp [encF,rowF,this,getB]
theorem RowsOk.of_perm {d':Array (Fin (m+1))} (h:RowsOk m d) (hp:PermIn 0 d.size d d'):RowsOk m d':=
 ⟨hp.1.trans h.size,(perm_of_in hp).trans h.perm⟩
theorem RowsOk.suf (h:RowsOk m d) {l:List Nat} (hl:l.length=m+1) {w:Nat} (hs:∀i j,i < j→j < m+1→ltW (aN l) w (rowF d i) (rowF d j)):IsSuf l (d.toList.map (·.val)):=by
 refine ⟨by rw [hl];exact h.vals,?_⟩
 rw [List.pairwise_iff_getElem]
 intro i j hi hj hij
 have hi':i < m+1:=by simpa [h.size] using hi
 have hj':j < m+1:=by simpa [h.size] using hj
 have e1:=rowF_list (d:=d) (i:=i) (by rw [h.size];exact hi')
 have e2:=rowF_list (d:=d) (i:=j) (by rw [h.size];exact hj')
 rw [List.getElem?_eq_getElem hi] at e1
 rw [List.getElem?_eq_getElem hj] at e2
 injection e1 with e1
 injection e2 with e2
 rw [e1,e2]
 exact ⟨w,hs i j hij hj'⟩
end
def rows0 (m:Nat):Array (Fin (m+1)):=(List.finRange (m+1)).toArray
theorem rows0_ok (m:Nat):RowsOk m (rows0 m):=⟨by simp [rows0],by simp [rows0]⟩
theorem ranks_of {n:Nat} {cs:Array Value} {f:Nat→Nat} {v:Nat→Nat} (hsz:n≤cs.size) (hf:∀j,j < n→f j < n) (hc:∀j,j < n→cs[f j]?=some (.int .i64 ((v j:Nat):Int))) (hsur:∀p,p < n→∃i,i < n∧f i=p):
 ∃R:List Nat,R.length=n∧(∀j,j < n→R[f j]?=some (v j))∧(∀(j:Nat) u,(R.map sv)[j]?=some u→cs[j]?=some u)∧∀r∈R,∃j,j < n∧r=v j:=by
 let g:Nat→Nat:=fun p=>match cs[p]? with
  | some (.int _ z)=>z.toNat
  | _=>0
 have hg:∀j,j < n→g (f j)=v j:=by
  intro j hj
  show (match cs[f j]? with | some (.int _ z)=>z.toNat | _=>0)=v j
  rw [hc j hj]
  simp
 refine ⟨(List.range n).map g,by simp,fun j hj=>?_,fun j u hu=>?_,fun r hr=>?_⟩
 · simp [hf j hj,hg j hj]
 · have hj:j < n:=by
    have:=(List.getElem?_eq_some_iff.1 hu).1
    simpa using this
   obtain ⟨i,hi,rfl⟩:=hsur j hj
   simp [hf i hi,hg i hi] at hu
   rw [hc i hi,←hu]
   rfl
 · obtain ⟨p,hp,rfl⟩:=List.mem_map.1 hr
   obtain ⟨i,hi,rfl⟩:=hsur p (by simpa using hp)
   exact ⟨i,hi,hg i hi⟩
def cfF (m w:Nat) (R:List Nat) (x y:Fin (m+1)):Int:=ordV (aN R) w x.val y.val
theorem swo_cf {l R:List Nat} {w:Nat} (m:Nat) (h:RankOk (aN l) (aN R) w):SWO (ltOf (cfF m w R)) where
 irrefl x:=by
  unfold ltOf cfF
  rw [decide_eq_false_iff_not,ordV_lt h]
  exact fun h=>h.irrefl
 trans x y z h1 h2:=by
  unfold ltOf cfF at*
  rw [decide_eq_true_iff,ordV_lt h] at*
  exact h1.trans h2
 ntrans x y z h1 h2:=by
  unfold ltOf cfF at*
  rw [decide_eq_false_iff_not,ordV_lt h] at*
  intro h3
  rcases ltW_tri (a:=aN l) (w+w) x.val y.val with h4 | h4 | h4
  · exact h1 h4
  · exact h2 (ltW.eq_left h4.symm h3)
  · exact h2 (h4.trans h3)
theorem sorted_f {l R:List Nat} {w m:Nat} {d:Array (Fin (m+1))} (h:RankOk (aN l) (aN R) w) (hz:d.size=m+1) (hs:SortedIn (ltOf (cfF m w R)) 0 (m+1) d) (i:Nat) (hi:i+1 < m+1):¬ltW (aN l) (w+w) (rowF d (i+1)) (rowF d i):=by
 have h1:=hs i (i+1) (Nat.zero_le _) (by omega) hi
 unfold ltOf cfF at h1
 rw [decide_eq_false_iff_not,ordV_lt h] at h1
 exact h1
end Go.Proofs.YtipaccakmndkgaaGreat
