/- Plain laws of a wave under edits; a wave that owns its trees' blocks (WaveS, WaveE). No conditions. The walk of the wave's Get. Conditions: symbols below 257; at most 1000. -/
import Derived.Test.YtipaccakmndkgaaGreatPwa25
import Derived.Test.YtipaccakmndkgaaGreatPwa27
import Derived.BigQuiet
namespace Go.Proofs.YtipaccakmndkgaaGreat
open Go.RowKit
set_option linter.unusedVariables false
set_option linter.unusedSimpArgs false
theorem bitsOf_append (L M:List Nat) (lv p:Nat):bitsOf (L++M) lv p=bitsOf L lv p++bitsOf M lv p:=by
 unfold bitsOf
 rw [List.filter_append,List.map_append]
theorem bitsOf_cons (x:Nat) (M:List Nat) (lv p:Nat):bitsOf (x::M) lv p=if pathN x lv=p then bitB x lv::bitsOf M lv p else bitsOf M lv p:=by
 unfold bitsOf
 rw [List.filter_cons]
 by_cases h:pathN x lv=p
 · simp [h]
 · simp [h]
theorem bitsOf_split (L:List Nat) (k lv p:Nat):bitsOf L lv p=bitsOf (L.take k) lv p++bitsOf (L.drop k) lv p:=by
 rw [←bitsOf_append,List.take_append_drop]
theorem atLv_tlen (L:List Nat) (k s lv:Nat):(bitsOf (L.take k) lv (pathN s lv)).length=atLv L k s lv:=by
 rw [bits_len]
 rfl
theorem bitsOf_ins (L:List Nat) (k s lv:Nat):bitsOf (insN L k s) lv (pathN s lv)=insN (bitsOf L lv (pathN s lv)) (atLv L k s lv) (bitB s lv):=by
 have hl:=atLv_tlen L k s lv
 unfold insN
 rw [bitsOf_append,bitsOf_cons,if_pos rfl]
 conv=>rhs;rw [bitsOf_split L k lv (pathN s lv)]
 rw [←hl,List.take_left,List.drop_left]
theorem bitsOf_ins_ne (L:List Nat) (k s lv p:Nat) (h:pathN s lv≠p):bitsOf (insN L k s) lv p=bitsOf L lv p:=by
 unfold insN
 rw [bitsOf_append,bitsOf_cons,if_neg h,←bitsOf_split]
theorem cut_at {L:List Nat} {k s:Nat} (h:L[k]?=some s):L=L.take k++s::L.drop (k+1):=by
 obtain ⟨hk,hx⟩:=List.getElem?_eq_some_iff.1 h
 rw [←hx,←List.drop_eq_getElem_cons hk,List.take_append_drop]
theorem bitsOf_del {L:List Nat} {k s:Nat} (lv:Nat) (h:L[k]?=some s):bitsOf (delN L k) lv (pathN s lv)=delN (bitsOf L lv (pathN s lv)) (atLv L k s lv):=by
 have hl:=atLv_tlen L k s lv
 have e:bitsOf L lv (pathN s lv)=bitsOf (L.take k) lv (pathN s lv)++bitB s lv::bitsOf (L.drop (k+1)) lv (pathN s lv):=by
  conv=>lhs;rw [cut_at h]
  rw [bitsOf_append,bitsOf_cons,if_pos rfl]
 unfold delN
 rw [bitsOf_append,e]
 generalize bitsOf (L.take k) lv (pathN s lv)=A at hl⊢
 generalize bitsOf (L.drop (k+1)) lv (pathN s lv)=C
 rw [←hl,List.take_left,List.drop_append,List.drop_eq_nil_of_le (by omega),show A.length+1 - A.length=1 by omega]
 rfl
theorem bitsOf_del_ne {L:List Nat} {k s:Nat} (lv p:Nat) (h:L[k]?=some s) (hp:pathN s lv≠p):bitsOf (delN L k) lv p=bitsOf L lv p:=by
 conv=>rhs;rw [cut_at h]
 unfold delN
 rw [bitsOf_append,bitsOf_append,bitsOf_cons,if_neg hp]
theorem take_insN {α:Type} (l:List α) (k:Nat) (x:α) (h:k≤l.length):(insN l k x).take k=l.take k:=by
 unfold insN
 have hl:(l.take k).length=k:=by rw [List.length_take];omega
 rw [List.take_append,hl,Nat.sub_self,List.take_zero,List.append_nil,List.take_take,Nat.min_self]
theorem insN_lt {L:List Nat} {k s M:Nat} (h:∀x∈L,x < M) (hs:s < M):∀x∈insN L k s,x < M:=fun x hx=>by
 rcases List.mem_cons.1 ((insN_perm L k s).mem_iff.1 hx) with rfl | h1
 · exact hs
 · exact h x h1
theorem delN_lt {L:List Nat} {k M:Nat} (h:∀x∈L,x < M):∀x∈delN L k,x < M:=fun x hx=>by
 unfold delN at hx
 rcases List.mem_append.1 hx with h1 | h1
 · exact h x (List.mem_of_mem_take h1)
 · exact h x (List.mem_of_mem_drop h1)
def TC (lv p:Nat):Nat:=16+512*lv+p
theorem TC_inj {lv p lv' p':Nat} (hp:p < 512) (hp':p' < 512) (h:TC lv p=TC lv' p'):lv=lv'∧p=p':=by
 unfold TC at h
 omega
theorem pow9 {lv p:Nat} (h:lv < 9) (hp:p < 2 ^ lv):p < 512:=by
 have:2 ^ lv≤2 ^ 9:=Nat.pow_le_pow_right (by decide) (by omega)
 have e:(2:Nat)^ 9=512:=by decide
 omega
def recol (own:Nat→Nat) (n m c b:Nat):Nat:=if b < n then own b else if b < m then c else 0
structure WaveS (w:World) (B:Nat) (own:Nat→Nat) (gv:Nat) (S:Nat→Value) (Ls:Nat→List Nat) (n v:Int):Prop where
 blk:Bk w gv 81 (wcells S n v)
 base:B≤gv∧own gv=2
 rows:∀lv,lv < 9→∃G:Nat→Nat,w.ownsRow B 84 3 (S lv) (2 ^ lv) (shelfL G lv (2 ^ lv))∧(∀b,(S lv).ownBlock=some b→own b=2)∧∀p,p < 2 ^ lv→TreeE w (fun b=>own b=TC lv p) (G p) (bitsOf (Ls lv) lv p)
 bnd:∀b,own b≠0→B≤b∧b < w.heap.size
def WaveE (w:World) (B:Nat) (own:Nat→Nat) (gv:Nat) (L:List Nat):Prop:=∃S v,WaveS w B own gv S (fun _=>L) (L.length:Int) v
theorem WaveS.vis {w w':World} {B:Nat} {own:Nat→Nat} {gv:Nat} {S:Nat→Value} {Ls:Nat→List Nat} {n v:Int} (h:WaveS w B own gv S Ls n v) (k:Vis w w'):∃v',WaveS w' B own gv S Ls n v':=by
 obtain ⟨v',h1⟩:=k.waveC h.blk
 refine ⟨v',h1,h.base,fun lv hl=>?_,fun b hb=>⟨(h.bnd b hb).1,Nat.lt_of_lt_of_le (h.bnd b hb).2 k.size⟩⟩
 obtain ⟨G,g1,g2,g3⟩:=h.rows lv hl
 exact ⟨G,k.own g1 (by decide) (by decide),g2,fun p hp=>(g3 p hp).vis k⟩
theorem WaveE.vis {w w':World} {B:Nat} {own:Nat→Nat} {gv:Nat} {L:List Nat} (h:WaveE w B own gv L) (k:Vis w w'):WaveE w' B own gv L:=by
 obtain ⟨S,v,h⟩:=h
 obtain ⟨v',h'⟩:=h.vis k
 exact ⟨S,v',h'⟩
theorem WaveE.at {w:World} {B:Nat} {own:Nat→Nat} {gv:Nat} {L:List Nat} (h:WaveE w B own gv L):WaveAt w B gv L:=by
 obtain ⟨S,v,h⟩:=h
 refine ⟨h.base.1,S,v,h.blk,fun lv hl=>?_⟩
 obtain ⟨G,g1,g2,g3⟩:=h.rows lv hl
 refine ⟨G,g1,fun p hp=>⟨?_,(g3 p hp).at⟩⟩
 have h0:=(g3 p hp).1
 exact (h.bnd (G p) (by rw [h0];unfold TC;omega)).1
theorem WaveS.edit {w w':World} {B:Nat} {own:Nat→Nat} {gv:Nat} {S:Nat→Value} {Ls:Nat→List Nat} {n v v':Int} (h:WaveS w B own gv S Ls n v) {lv p gx:Nat} (hlv:lv < 9) (hp:p < 2 ^ lv) {G:Nat→Nat} (hG:w.ownsRow B 84 3 (S lv) (2 ^ lv) (shelfL G lv (2 ^ lv)))
 (hgx:own gx < 16) (hgx2:∀cs,¬Bk w gx 84 cs) {bs':List Bool} (ht:TreeE w' (Gw (fun b=>own b=TC lv p) w.heap.size) (G p) bs') (hk:Keep (fun x=>own x=TC lv p∨x=gv∨x=gx) w w') (hb:Bk w' gv 81 (wcells S n v'))
 {L':List Nat} (hL:bitsOf L' lv p=bs') (hL2:∀q,q≠p→bitsOf L' lv q=bitsOf (Ls lv) lv q):
 WaveS w' B (recol own w.heap.size w'.heap.size (TC lv p)) gv S (fun l=>if l=lv then L' else Ls l) n v':=by
 have hB:B≤w.heap.size:=Nat.le_trans h.base.1 (Nat.le_of_lt h.blk.lt)
 have hold:∀b,b < w.heap.size→recol own w.heap.size w'.heap.size (TC lv p) b=own b:=fun b hb=>by unfold recol;rw [if_pos hb]
 refine ⟨hb,⟨h.base.1,by rw [hold _ h.blk.lt];exact h.base.2⟩,fun l hl=>?_,fun b hb'=>?_⟩
 · obtain ⟨G',g1,g2,g3⟩:=h.rows l hl
   refine ⟨G',own_same g1 fun b cs hbo hk'=>hk.bk hk' fun f=>?_,fun b hbo=>?_,fun q hq=>?_⟩
   · rcases f with f | f | f
     · rw [g2 b hbo] at f
       unfold TC at f
       omega
     · subst f
       exact absurd (bk_inj hk' h.blk).1 (by decide)
     · subst f
       exact hgx2 cs hk'
   · rw [hold _ (g1.lt b hbo).2]
     exact g2 b hbo
   · have hkeep:(l≠lv∨q≠p)→TreeE w' (fun b=>recol own w.heap.size w'.heap.size (TC lv p) b=TC l q) (G' q) (bitsOf (Ls l) l q):=fun hne=>by
        have ht':=(g3 q hq).keep hk fun b t cs hin hk' hf f=>by
         rcases f with f | f | f
         · rw [hf] at f
           obtain ⟨e1,e2⟩:=TC_inj (pow9 hl hq) (pow9 hlv hp) f
           rcases hne with h1 | h1
           · exact h1 e1
           · exact h1 e2
         · subst f
           rw [(bk_inj hk' h.blk).1] at hin
           exact absurd hin (by decide)
         · subst f
           rw [hf] at hgx
           unfold TC at hgx
           omega
        have hmin:TreeE w (fun b=>own b=TC l q) (G' q) (bitsOf (Ls l) l q):=g3 q hq
        refine ht'.mono fun b hb' hf=>?_
        have hlt:b < w.heap.size:=(h.bnd b (by rw [hf];unfold TC;omega)).2
        rw [hold b hlt]
        exact hf
     by_cases e1:l=lv
     · subst e1
       rw [if_pos rfl]
       by_cases e2:q=p
       · subst e2
         rw [hL]
         have hGG:G' q=G q:=by
           have h1:=g1.1
           have e1:=(shelfL_get G' l (2 ^ l) q hq).1
           have e2:=(shelfL_get G l (2 ^ l) q hq).1
           have e3:shelfL G' l (2 ^ l)=shelfL G l (2 ^ l):=by
             rcases g1.2 with ⟨a1,a2⟩|⟨g,cap,cur,a1,a2,a3,a4,a5,a6,a7⟩
             · have:=Nat.two_pow_pos l
               omega
             · rcases hG.2 with ⟨c1,c2⟩|⟨g',cap',cur',c1,c2,c3,c4,c5,c6,c7⟩
               · have:=Nat.two_pow_pos l
                 omega
               · rw [a1] at c1
                 injection c1 with c1 _ _
                 injection c1 with c1
                 injection c1 with c1 _
                 subst c1
                 obtain ⟨_,rfl⟩:=bk_inj a3 c3
                 rw [←a7,←c7]
           rw [e3,e2] at e1
           injection e1 with e1
           injection e1 with e1
           injection e1 with e1
           injection e1 with e1 _
           exact e1.symm
         rw [hGG]
         refine ht.mono fun b hb' hf=>?_
         rcases hf with hf | hf
         · rw [hold b (h.bnd b (by rw [hf];unfold TC;omega)).2]
           exact hf
         · unfold recol
           rw [if_neg (by omega),if_pos hb']
       · rw [hL2 q e2]
         exact hkeep (.inr e2)
     · rw [if_neg e1]
       exact hkeep (.inl e1)
 · unfold recol at hb'
   by_cases c:b < w.heap.size
   · rw [if_pos c] at hb'
     exact ⟨(h.bnd b hb').1,Nat.lt_of_lt_of_le c hk.size⟩
   · rw [if_neg c] at hb'
     by_cases c2:b < w'.heap.size
     · exact ⟨by omega,c2⟩
     · rw [if_neg c2] at hb'
       exact absurd rfl hb'
theorem wcells_n (S:Nat→Value) (n m v:Int):(wcells S n v).setIfInBounds 9 (.int .i64 m)=wcells S m v:=by
 unfold wcells
 rfl
theorem WaveS.set_n {w:World} {B:Nat} {own:Nat→Nat} {gv:Nat} {S:Nat→Value} {Ls:Nat→List Nat} {n v:Int} (h:WaveS w B own gv S Ls n v) (m:Int):WaveS (w.setCell ⟨gv,9,none⟩ (.int .i64 m)) B own gv S Ls m v:=by
 have hk:Keep (fun b=>b=gv) w (w.setCell ⟨gv,9,none⟩ (.int .i64 m)):=Keep.setCell (F:=fun b=>b=gv) (Keep.refl _ _) (p:=⟨gv,9,none⟩) (.inl rfl) _
 refine ⟨by have:=h.blk.set 9 (.int .i64 m);rw [wcells_n] at this;exact this,h.base,fun lv hl=>?_,fun b hb=>⟨(h.bnd b hb).1,Nat.lt_of_lt_of_le (h.bnd b hb).2 hk.size⟩⟩
 obtain ⟨G,g1,g2,g3⟩:=h.rows lv hl
 exact ⟨G,own_same g1 fun b cs _ hk'=>hk.bk hk' (Bk.ne hk' h.blk (by decide)),g2,fun p hp=>(g3 p hp).keep hk fun b t cs hin hk' _ e=>by
  have e':b=gv:=e
  subst e'
  rw [(bk_inj hk' h.blk).1] at hin
  exact absurd hin (by decide)⟩
theorem WaveS.far {w w':World} {B:Nat} {own:Nat→Nat} {gv:Nat} {S:Nat→Value} {Ls:Nat→List Nat} {n v:Int} (h:WaveS w B own gv S Ls n v) {H:Nat→Prop} (k:Keep H w w') (hH:∀b,H b→own b≠2∧own b < 16):WaveS w' B own gv S Ls n v:=by
 refine ⟨k.bk h.blk (fun f=>by have:=hH _ f;have:=h.base.2;omega),h.base,fun lv hl=>?_,fun b hb=>⟨(h.bnd b hb).1,Nat.lt_of_lt_of_le (h.bnd b hb).2 k.size⟩⟩
 obtain ⟨G,g1,g2,g3⟩:=h.rows lv hl
 exact ⟨G,own_same g1 fun b cs hbo hk'=>k.bk hk' (fun f=>by have:=hH _ f;have:=g2 b hbo;omega),g2,fun p hp=>(g3 p hp).keep k fun b t cs hin hk' hf f=>by
  have:=hH b f
  rw [hf] at this
  unfold TC at this
  omega⟩
theorem WaveE.far {w w':World} {B:Nat} {own:Nat→Nat} {gv:Nat} {L:List Nat} (h:WaveE w B own gv L) {H:Nat→Prop} (k:Keep H w w') (hH:∀b,H b→own b≠2∧own b < 16):WaveE w' B own gv L:=by
 obtain ⟨S,v,h⟩:=h
 exact ⟨S,v,h.far k hH⟩
theorem WaveS.paint {w:World} {B:Nat} {own own':Nat→Nat} {gv:Nat} {S:Nat→Value} {Ls:Nat→List Nat} {n v:Int} (h:WaveS w B own gv S Ls n v) (h1:∀b,b < w.heap.size→2≤own b→own' b=own b) (h2:∀b,own' b≠0→B≤b∧b < w.heap.size):WaveS w B own' gv S Ls n v:=by
 refine ⟨h.blk,⟨h.base.1,by rw [h1 gv h.blk.lt (by rw [h.base.2];omega)];exact h.base.2⟩,fun lv hl=>?_,h2⟩
 obtain ⟨G,g1,g2,g3⟩:=h.rows lv hl
 refine ⟨G,g1,fun b hbo=>?_,fun p hp=>(g3 p hp).mono fun b hb hf=>?_⟩
 · rw [h1 b (g1.lt b hbo).2 (by rw [g2 b hbo];omega)]
   exact g2 b hbo
 · rw [h1 b hb (by rw [hf];unfold TC;omega)]
   exact hf
theorem WaveE.paint {w:World} {B:Nat} {own own':Nat→Nat} {gv:Nat} {L:List Nat} (h:WaveE w B own gv L) (h1:∀b,b < w.heap.size→2≤own b→own' b=own b) (h2:∀b,own' b≠0→B≤b∧b < w.heap.size):WaveE w B own' gv L:=by
 obtain ⟨S,v,h⟩:=h
 exact ⟨S,v,h.paint h1 h2⟩
end Go.Proofs.YtipaccakmndkgaaGreat
namespace Go.Proofs.YtipaccakmndkgaaGreat
open Go.RowKit
set_option linter.unusedVariables false
set_option linter.unusedSimpArgs false
set_option maxRecDepth 100000 in
theorem Next_any (gt lv p:Nat) (b:Bool) (w:World) (hp:p≤1000):
 Calls Tryz.prog 57 #[.agg #[.pointer (some ⟨gt,0,none⟩),.int .i64 (lv:Int),.int .i64 (p:Int)],.bool b] w fun e w'=>e=.returned (.int .i64 ((2*p+(if b then 1 else 0):Nat):Int))∧Below w.heap.size w w':=by
 have e1:IntKind.i64.wrap (2*(p:Int))=2*(p:Int):=by rw [IntKind.wrap_i64];omega
 have e2:IntKind.i64.wrap (2*(p:Int)+1)=2*(p:Int)+1:=by rw [IntKind.wrap_i64];omega
 go_enter Tryz.func57,Tryz.ntmps57
 cases b with
 | true=>
   go_wp2_with fail
   go_ret
   exact ⟨ret_i64 (by simp),(Below.refl _ _).alloc (Nat.le_refl _) _⟩
 | false=>
   go_wp2_with fail
   go_ret
   exact ⟨ret_i64 (by simp),(Below.refl _ _).alloc (Nat.le_refl _) _⟩
set_option maxRecDepth 100000 in
set_option maxHeartbeats 4000000 in
theorem WaveGet_any (B gv:Nat) (L:List Nat) (k s:Nat) (w:World) (h:WaveAt w B gv L) (hk:k < L.length) (hks:L[k]=s) (hL:∀x∈L,x < 257) (hn:L.length≤1000):
 Calls Tryz.prog 21 #[.pointer (some ⟨gv,0,none⟩),.int .i64 (k:Int)] w fun e w'=>e=.returned (.tuple #[.int .i64 (s:Int),.int .i64 0])∧VB B w w':=by
 have hs:s < 257:=by rw [←hks];exact hL _ (List.getElem_mem hk)
 have h90:=atLv_zero L k s (Nat.le_of_lt hk) hL hs
 have p0:=path_zero s hs
 have p9:=path_nine s
 have hat:∀lv,(bitsOf L lv (pathN s lv))[atLv L k s lv]?=some (bitB s lv):=fun lv=>by
  have:=bits_at L k lv hk
  rw [hks] at this
  exact this
 obtain ⟨hBg,S,v,hb,hrows⟩:=h
 have hlt:=hb.lt
 have hB:B≤w.heap.size:=by omega
 have hset:=(hb.set 10 (.int .i64 0)).alloc (.cells #[.int .i64 (k:Int)] 3)
 rw [wcells_visits] at hset
 have hv1:=VisK.alloc (VB.set_wave hb hBg 0) (.cells #[.int .i64 (k:Int)] 3)
 have hgk:=Bk.new (w.setCell ⟨gv,10,none⟩ (.int .i64 0)) 3 #[.int .i64 (k:Int)]
 rw [show (w.setCell ⟨gv,10,none⟩ (.int .i64 0)).heap.size=w.heap.size by simp [World.setCell]] at hgk
 obtain ⟨n,hnn⟩:∃n,L.length=n:=⟨_,rfl⟩
 rw [hnn] at hb hset hk hn
 have f10:=hb.frozen 10
 have x10:w.cell? ⟨gv,10,none⟩=some (.int .i64 v):=(hb.cell 10).trans (wcells_get S n v).2.2.2.2.2.2.2.2.2.2
 obtain ⟨W,hW⟩:∃W,(w.setCell ⟨gv,10,none⟩ (.int .i64 0)).alloc (.cells #[.int .i64 (k:Int)] 3)=W:=⟨_,rfl⟩
 rw [hW] at hset hv1 hgk
 obtain ⟨d0,d1,d2,d3,d4,d5,d6,d7,d8,d9,d10⟩:=wcells_get S (n:Int) 0
 have c0:∀q,(W.drewN q).cell? ⟨gv,0,none⟩=some (S 0):=fun q=>(hset.cell 0).trans d0
 have c1:∀q,(W.drewN q).cell? ⟨gv,1,none⟩=some (S 1):=fun q=>(hset.cell 1).trans d1
 have c2:∀q,(W.drewN q).cell? ⟨gv,2,none⟩=some (S 2):=fun q=>(hset.cell 2).trans d2
 have c3:∀q,(W.drewN q).cell? ⟨gv,3,none⟩=some (S 3):=fun q=>(hset.cell 3).trans d3
 have c4:∀q,(W.drewN q).cell? ⟨gv,4,none⟩=some (S 4):=fun q=>(hset.cell 4).trans d4
 have c5:∀q,(W.drewN q).cell? ⟨gv,5,none⟩=some (S 5):=fun q=>(hset.cell 5).trans d5
 have c6:∀q,(W.drewN q).cell? ⟨gv,6,none⟩=some (S 6):=fun q=>(hset.cell 6).trans d6
 have c7:∀q,(W.drewN q).cell? ⟨gv,7,none⟩=some (S 7):=fun q=>(hset.cell 7).trans d7
 have c8:∀q,(W.drewN q).cell? ⟨gv,8,none⟩=some (S 8):=fun q=>(hset.cell 8).trans d8
 have c9:W.cell? ⟨gv,9,none⟩=some (.int .i64 (n:Int)):=(hset.cell 9).trans d9
 have ck:W.cell? ⟨w.heap.size,0,none⟩=some (.int .i64 (k:Int)):=(hgk.cell 0).trans rfl
 have c9q:∀q,(W.drewN q).cell? ⟨gv,9,none⟩=some (.int .i64 (n:Int)):=fun q=>c9
 have ckq:∀q,(W.drewN q).cell? ⟨w.heap.size,0,none⟩=some (.int .i64 (k:Int)):=fun q=>ck
 have hk0:decide ((k:Int) < 0)=false:=by simp
 have hkn:¬n≤k:=by omega
 have Hv1:=Lib.hid hv1
 have Hset:=Lib.hid hset
 have Hgk:=Lib.hid hgk
 have Hrows:=Lib.hid hrows
 have H0:=Lib.hid h90
 have P0:=Lib.hid p0
 have P9:=Lib.hid p9
 have Hat:=Lib.hid hat
 have HL:=Lib.hid hL
 have HN:=Lib.hid hnn
 have HW:=Lib.hid hW
 have Hks:=Lib.hid hks
 have Hb0:=Lib.hid hb
 have Hk:=Lib.hid hk
 clear d0 d1 d2 d3 d4 d5 d6 d7 d8 d9 d10 hv1 hset hgk hrows h90 p0 p9 hat hL hnn hW hb hks hk
 go_enter Tryz.func21,Tryz.ntmps21
 go_wp2_with fail
 rw [HW.out]
 clear x10 f10
 go_quiet (fail)
 clear c9 ck hk0
 go_wp2_with fail
 go_loopw [6,30] (fun x i wr=>∃lv:Nat,lv≤9∧i=.int .i64 lv∧x=.int .i64 ((pathN s lv:Nat):Int)∧VB B w wr∧Bk wr w.heap.size 3 #[.int .i64 ((atLv L k s lv:Nat):Int)]∧w.heap.size < wr.heap.size) (fun _ i _=>9 -(intOf i).toNat)
 case atStart=>exact ⟨0,by omega,rfl,by rw [P0.out];rfl,Hv1.out.below (below_drewN (Below.refl _ _) _),by rw [H0.out];exact Hgk.out.drewN _,Hgk.out.lt⟩
 case round=>
  obtain ⟨lv,hlv,rfl,rfl,hv,hgk,hgl0⟩:=hrel
  by_cases hl9:lv < 9
  · have hix:=ix9 S lv hl9
    obtain ⟨G,hown,htr⟩:=Hrows.out lv hl9
    obtain ⟨m,hm⟩:∃m,2 ^ lv=m:=⟨_,rfl⟩
    obtain ⟨p,hp⟩:∃p,pathN s lv=p:=⟨_,rfl⟩
    have hpm:p < m:=by rw [←hm,←hp];exact path_lt s lv hs (by omega)
    rw [hm] at hown htr
    obtain ⟨g,cap,hSl,hnc,hgl⟩:=World.ownsRow.form hown (by omega)
    rw [hSl] at hix hown
    obtain ⟨x,hx⟩:∃x,atLv L k s lv=x:=⟨_,rfl⟩
    obtain ⟨y,hy⟩:∃y,atLv L k s (lv+1)=y:=⟨_,rfl⟩
    obtain ⟨b,hbb⟩:∃b,bitB s lv=b:=⟨_,rfl⟩
    have hxy:=atLv_step L k s lv hl9
    have hxa:=Hat.out lv
    rw [hp,hx,hbb,hy] at hxy
    rw [hp,hx,hbb] at hxa
    have hxl:x < (bitsOf L lv p).length:=(List.getElem?_eq_some_iff.1 hxa).1
    have hxd:(bitsOf L lv p).getD x false=b:=by rw [List.getD_eq_getElem?_getD,hxa];rfl
    have hps:=path_step s lv hl9
    rw [hp,hbb] at hps
    rw [hp]
    rw [hx] at hgk
    have hpI:(p:Int) < (m:Int):=by omega
    have hrow5:=hv.1.own hown (by decide) (by decide)
    obtain ⟨q0,q1,q2⟩:=shelfL_get G lv m p hpm
    have a0:wr.cell? ⟨g,p*3,none⟩=_:=(World.ownsRow.cellAt hrow5 (p*3) (by omega)).trans q0
    have a1:wr.cell? ⟨g,p*3+1,none⟩=_:=(World.ownsRow.cellAt hrow5 (p*3+1) (by omega)).trans q1
    have a2:wr.cell? ⟨g,p*3+2,none⟩=_:=(World.ownsRow.cellAt hrow5 (p*3+2) (by omega)).trans q2
    have Hgk2:=Lib.hid hgk
    have Hxy:=Lib.hid hxy
    have Hxl:=Lib.hid hxl
    have Hxd:=Lib.hid hxd
    have Hps:=Lib.hid hps
    have Htr:=Lib.hid (htr p hpm)
    have Hp:=Lib.hid hp
    have Hb:=Lib.hid hbb
    have Hy:=Lib.hid hy
    have Hv:=Lib.hid hv
    clear hown htr hSl hm hp hx hy hbb hxy hxa hxl hxd hps hv hgk hrow5 q0 q1 q2
    go_wp2_with fail
    obtain ⟨W2,hW2⟩:∃W2,(wr.alloc (.cells #[.pointer (some ⟨G p,0,none⟩),.int .i64 (lv:Int),.int .i64 (p:Int)] 84)).alloc (.cells #[.bool false] 4)=W2:=⟨_,rfl⟩
    have hb2:Below wr.heap.size wr W2:=by rw [←hW2];exact ((Below.refl _ _).alloc (Nat.le_refl _) _).alloc (by simp) _
    have hsh:Bk W2 wr.heap.size 84 #[.pointer (some ⟨G p,0,none⟩),.int .i64 (lv:Int),.int .i64 (p:Int)]:=by rw [←hW2];exact (Bk.new wr _ _).alloc _
    have hbt:Bk W2 (wr.heap.size+1) 4 #[.bool false]:=by
        rw [←hW2]
        have h:=Bk.new (wr.alloc (.cells #[.pointer (some ⟨G p,0,none⟩),.int .i64 (lv:Int),.int .i64 (p:Int)] 84)) 4 #[.bool false]
        rw [World.size_alloc] at h
        exact h
    rw [hW2]
    have hv2:VB B w W2:=Hv.out.below hb2
    obtain ⟨v2,hw2⟩:=hv2.1.waveC Hb0.out
    have ht0:=Htr.out.2.vis Hv.out.1
    have hgk2:=Hgk2.out.below hb2 Hgk2.out.lt
    refine (LookG_any gv (G p) w.heap.size (wr.heap.size+1) S n v2 lv p _ (bitsOf L lv p) x wr W2 hw2 ht0 (Vis.of_below hb2) (by omega) hgk2 hbt Hxl.out).mono ?_
    rintro e W3 ⟨rfl,hf3,hk3,hbt3⟩
    rw [Hxd.out] at hbt3
    have hgk3:=hf3.bk hgk2 (by decide) (by decide) (fun h=>absurd (show w.heap.size=wr.heap.size+1 from h) (by omega))
    have hsh3:=hf3.bk hsh (by decide) (by decide) (fun h=>absurd (show wr.heap.size=wr.heap.size+1 from h) (by omega))
    have hv3:VB B wr W3:=⟨VisF.to_vis (VisF.trans (VisF.of_vis (Vis.of_below hb2)) hf3) (fun b hb e=>by have:b=wr.heap.size+1:=e;omega),(Keep.of_below hb2).trans (hk3.mono fun b _ e=>by
        rcases e with rfl | rfl | rfl
        · exact hBg
        · exact Htr.out.1
        · omega)⟩
    have hvw3:=Hv.out.trans hv3
    have Hgk3:=Lib.hid hgk3
    have Hsh3:=Lib.hid hsh3
    have Hbt3:=Lib.hid hbt3
    have Hv3:=Lib.hid hvw3
    have hgs3:=hgk3.lt
    have hss3:=hsh3.lt
    have hbs3:=hbt3.lt
    obtain ⟨r,hr⟩:∃r,pathN s (lv+1)=r:=⟨_,rfl⟩
    have hps2:=Hps.out
    rw [hr] at hps2
    have Hr:=Lib.hid hr
    have Hps2:=Lib.hid hps2
    have hp512:p≤1000:=by
        have h1:=path_lt s lv hs (by omega)
        have h2:2 ^ lv≤2 ^ 9:=Nat.pow_le_pow_right (by decide) (by omega)
        rw [Hp.out] at h1
        omega
    clear hW2 hb2 hsh hbt hv2 hw2 ht0 hgk2 hf3 hk3 hbt3 hgk3 hsh3 hv3 hvw3 hr hps2 a0 a1 a2
    go_wp2_with fail
    refine wp_region_any (by kernel_rfl) ?_
    refine wpAny_vis_tail B 8 [41,42,43,44,45,46,47,48] (fun _=>False) 7 [] (fun _=>True) (is (.int .i64 (r:Int))) [is (.pointer (some ⟨gv,0,none⟩)),is (.agg #[.pointer (some ⟨G p,0,none⟩),.int .i64 (lv:Int),.int .i64 (p:Int)]),is (.int .i64 (x:Int)),is (.bool b),is (.int .i64 (y:Int)),is (.agg #[.pointer (some ⟨G p,0,none⟩),.int .i64 (lv:Int),.int .i64 (p:Int)]),is (.bool b),anyV] _ _ rfl (by decide) (by kernel_rfl) (by kernel_rfl) (by kernel_rfl) (trivial) (fun _ _ _ _ _=>trivial) (stbs_is _ _) (by repeat' (first | exact stbs_is _ _ | exact stbs_any _ |(refine List.forall_mem_cons.2 ⟨?_,?_⟩)|(intro p hp;cases hp))) ?_ ?_
    · refine steps_of_n ?_
      refine steps_cons (step_on3 rfl rfl fun ev _ _ _ _ _ hold _ _ _ _ hK=>?_) ?_
      · have e0:ev (.tmp 0)=.pointer (some ⟨gv,0,none⟩):=hold 0 (by kernel_rfl)
        go_simp
        exact hK _ _ (vstep_vis (VisK.refl _ _)) rfl
      refine steps_cons (step_on3 rfl rfl fun ev w5 hS _ _ _ hold _ _ _ _ hK=>?_) ?_
      · replace hS:VFB B (fun _=>False) W3 w5:=⟨⟨hS.1.os,hS.1.tape,hS.1.output,hS.1.size,hS.1.block⟩,⟨hS.2.os,hS.2.tape,hS.2.output,hS.2.size,hS.2.block⟩⟩
        have e9:ev (.tmp 9)=.pointer (some ⟨wr.heap.size,0,none⟩):=hold 9 (by kernel_rfl)
        have hs5:=hS.1.bk Hsh3.out (by decide) (by decide) (fun h=>h)
        have s0:w5.cell? ⟨wr.heap.size,0,none⟩=some (.pointer (some ⟨G p,0,none⟩)):=(hs5.cell 0).trans rfl
        have s1:w5.cell? ⟨wr.heap.size,1,none⟩=some (.int .i64 (lv:Int)):=(hs5.cell 1).trans rfl
        have s2:w5.cell? ⟨wr.heap.size,2,none⟩=some (.int .i64 (p:Int)):=(hs5.cell 2).trans rfl
        go_simp
        exact hK _ _ (vstep_vis (VisK.refl _ _)) rfl
      refine steps_cons (step_on3 rfl rfl fun ev w5 hS _ _ _ hold _ _ _ _ hK=>?_) ?_
      · replace hS:VFB B (fun _=>False) W3 w5:=⟨⟨hS.1.os,hS.1.tape,hS.1.output,hS.1.size,hS.1.block⟩,⟨hS.2.os,hS.2.tape,hS.2.output,hS.2.size,hS.2.block⟩⟩
        have e3:ev (.tmp 3)=.pointer (some ⟨w.heap.size,0,none⟩):=hold 3 (by kernel_rfl)
        have k5:w5.cell? ⟨w.heap.size,0,none⟩=some (.int .i64 (x:Int)):=((hS.1.bk Hgk3.out (by decide) (by decide) (fun h=>h)).cell 0).trans rfl
        go_simp
        exact hK _ _ (vstep_vis (VisK.refl _ _)) rfl
      refine steps_cons (step_on3 rfl rfl fun ev w5 hS _ _ _ hold _ _ _ _ hK=>?_) ?_
      · replace hS:VFB B (fun _=>False) W3 w5:=⟨⟨hS.1.os,hS.1.tape,hS.1.output,hS.1.size,hS.1.block⟩,⟨hS.2.os,hS.2.tape,hS.2.output,hS.2.size,hS.2.block⟩⟩
        have e10:ev (.tmp 10)=.pointer (some ⟨wr.heap.size+1,0,none⟩):=hold 10 (by kernel_rfl)
        have b5:w5.cell? ⟨wr.heap.size+1,0,none⟩=some (.bool b):=((hS.1.bk Hbt3.out (by decide) (by decide) (fun h=>h)).cell 0).trans rfl
        go_simp
        exact hK _ _ (vstep_vis (VisK.refl _ _)) rfl
      refine steps_cons (step_on3 rfl rfl fun _ w5 hS _ _ _ _ hval _ _ _ hK=>?_) ?_
      · replace hS:VFB B (fun _=>False) W3 w5:=⟨⟨hS.1.os,hS.1.tape,hS.1.output,hS.1.size,hS.1.block⟩,⟨hS.2.os,hS.2.tape,hS.2.output,hS.2.size,hS.2.block⟩⟩
        have e41:_=_:=hval 0 41 (by kernel_rfl) rfl
        have e42:_=_:=hval 1 42 (by kernel_rfl) rfl
        have e43:_=_:=hval 2 43 (by kernel_rfl) rfl
        have e44:_=_:=hval 3 44 (by kernel_rfl) rfl
        go_simp
        have hvs:=VFB.to_vb hS (fun b _ h=>h)
        have hvw:=Hv3.out.trans hvs
        obtain ⟨v5,hw5⟩:=hvw.1.waveC Hb0.out
        have ht5:=Htr.out.2.vis hvw.1
        refine (WRank1_any gv (G p) S n v5 lv p (bitsOf L lv p) x b w5 hw5 ht5 (Nat.le_of_lt Hxl.out)).mono ?_
        rintro e w8 ⟨rfl,hv8⟩
        rw [Hxy.out]
        exact hK _ _ (vstep_vis (hv8.mono fun b hb=>by rcases hb with rfl | rfl;exact hBg;exact Htr.out.1)) rfl
      refine steps_cons (step_on3 rfl rfl fun ev w5 hS _ _ _ hold _ _ _ _ hK=>?_) ?_
      · replace hS:VFB B (fun _=>False) W3 w5:=⟨⟨hS.1.os,hS.1.tape,hS.1.output,hS.1.size,hS.1.block⟩,⟨hS.2.os,hS.2.tape,hS.2.output,hS.2.size,hS.2.block⟩⟩
        have e9:ev (.tmp 9)=.pointer (some ⟨wr.heap.size,0,none⟩):=hold 9 (by kernel_rfl)
        have hs5:=hS.1.bk Hsh3.out (by decide) (by decide) (fun h=>h)
        have s0:w5.cell? ⟨wr.heap.size,0,none⟩=some (.pointer (some ⟨G p,0,none⟩)):=(hs5.cell 0).trans rfl
        have s1:w5.cell? ⟨wr.heap.size,1,none⟩=some (.int .i64 (lv:Int)):=(hs5.cell 1).trans rfl
        have s2:w5.cell? ⟨wr.heap.size,2,none⟩=some (.int .i64 (p:Int)):=(hs5.cell 2).trans rfl
        go_simp
        exact hK _ _ (vstep_vis (VisK.refl _ _)) rfl
      refine steps_cons (step_on3 rfl rfl fun ev w5 hS _ _ _ hold _ _ _ _ hK=>?_) ?_
      · replace hS:VFB B (fun _=>False) W3 w5:=⟨⟨hS.1.os,hS.1.tape,hS.1.output,hS.1.size,hS.1.block⟩,⟨hS.2.os,hS.2.tape,hS.2.output,hS.2.size,hS.2.block⟩⟩
        have e10:ev (.tmp 10)=.pointer (some ⟨wr.heap.size+1,0,none⟩):=hold 10 (by kernel_rfl)
        have b5:w5.cell? ⟨wr.heap.size+1,0,none⟩=some (.bool b):=((hS.1.bk Hbt3.out (by decide) (by decide) (fun h=>h)).cell 0).trans rfl
        go_simp
        exact hK _ _ (vstep_vis (VisK.refl _ _)) rfl
      refine steps_cons (step_on3 rfl rfl fun _ w5 _ _ _ _ _ hval _ _ _ hK=>?_) ?_
      · have e46:_=_:=hval 5 46 (by kernel_rfl) rfl
        have e47:_=_:=hval 6 47 (by kernel_rfl) rfl
        go_simp
        refine (Next_any (G p) lv p b w5 hp512).mono ?_
        rintro e w8 ⟨rfl,hb8⟩
        rw [←Hps2.out]
        exact hK _ _ (vstep_vis (VisK.of_below hb8)) rfl
      exact steps_nil
    · intro ev w6 f hS hval hall
      replace hS:VFB B (fun _=>False) W3 w6:=⟨⟨hS.1.os,hS.1.tape,hS.1.output,hS.1.size,hS.1.block⟩,⟨hS.2.os,hS.2.tape,hS.2.output,hS.2.size,hS.2.block⟩⟩
      have e45:ev (.tmp 45)=.int .i64 (y:Int):=hval 4 45 (by decide) rfl
      have e48:ev (.tmp 48)=.int .i64 (r:Int):=hval 7 48 (by decide) rfl
      obtain ⟨vJ,pJ0⟩:=hall 7 (by decide)
      have pJ:(is (.int .i64 (r:Int))) vJ w6:=pJ0
      clear pJ0 hall
      simp only [putsOf,List.foldl_cons,List.foldl_nil,Act.put,List.setIfInBounds_toArray,List.set_cons_zero,List.set_cons_succ]
      rw [e45]
      rw [e48]
      clear hval
      have hvs:=VFB.to_vb hS (fun b _ h=>h)
      have hgk6:=hvs.1.bk Hgk3.out (by decide) (by decide)
      have c6k:=hgk6.cell 0
      have f6k:=hgk6.frozen 0
      have hs6:=hvs.1.size
      have Hvs:=Lib.hid hvs
      have Hgk6:=Lib.hid hgk6
      clear hvs hgk6 hS pJ
      change wpAny Tryz.prog Region.Mode.any _ _ (2+f) (firstN 8 10) _ w6
      rw [show 2+f=f+1+1 by omega]
      refine wpAny_one (f:=f+1) (i:=8) (by kernel_rfl) ?_
      refine wpOp_run rfl rfl ?_
      generalize hK:wpAny Tryz.prog _ _ _ (f+1) _=K5
      go_simp
      subst hK
      refine wpAny_one (f:=f) (i:=9) (by kernel_rfl) ?_
      refine wpOp_run rfl rfl ?_
      generalize hK:wpAny Tryz.prog _ _ _ f _=K5
      go_simp
      subst hK
      refine wpAny_all (by kernel_rfl) ?_
      have hgk7:=Hgk6.out.set 0 (.int .i64 (y:Int))
      have hv7:=Hv3.out.trans Hvs.out
      have hv8:VB B w (w6.setCell ⟨w.heap.size,0,none⟩ (.int .i64 (y:Int))):=⟨Vis.fresh hv7.1 (p:=⟨w.heap.size,0,none⟩) (Nat.le_refl _) _,Keep.setCell (F:=fun b=>B≤b) hv7.2 (p:=⟨w.heap.size,0,none⟩) (.inl hB) _⟩
      have Hv8:=Lib.hid hv8
      have Hgk7:=Lib.hid hgk7
      clear hv7 hv8 hgk7
      go_wp2_with fail
      go_roundw
      case rel=>exact ⟨lv+1,by omega,by go_num,by rw [Hr.out],Hv8.out,by rw [Hy.out];exact Hgk7.out,Hgk7.out.lt⟩
      case measure=>simp [intOf];omega
  · obtain rfl:lv=9:=by omega
    rw [P9.out]
    go_wp2_with fail
    go_ret2
    exact ⟨rfl,hv⟩
end Go.Proofs.YtipaccakmndkgaaGreat
