/- The walk of find.Count. Conditions: as FindRows. Plain laws of a wave under edits; a wave that owns its trees' blocks (WaveS, WaveE). No conditions. The walks of the wave's Get: its closure, and look with it. Conditions: none. The walk of snap.part. Conditions: at most 10^6 bytes. -/
import Derived.Test.YtipaccakmndkgaaGreatDoorPsl21
import Derived.Test.YtipaccakmndkgaaGreatDoorPsl20
import Derived.Test.YtipaccakmndkgaaGreatDoorPsl22
import Derived.Test.YtipaccakmndkgaaGreatDoorPsl9
import Derived.Test.YtipaccakmndkgaaGreatDoorPsl13
import Derived.Test.YtipaccakmndkgaaGreatDoorPsl4
import Derived.Test.YtipaccakmndkgaaGreatDoorPsl2
import Derived.Test.YtipaccakmndkgaaGreatDoorPsl18
set_option linter.unusedVariables false
set_option linter.unusedSimpArgs false
set_option maxRecDepth 100000
set_option maxHeartbeats 1000000
namespace Go.Proofs.YtipaccakmndkgaaGreatDoor
open Go.RowKit Go.Shelf
end Go.Proofs.YtipaccakmndkgaaGreatDoor
namespace Go.Proofs.YtipaccakmndkgaaGreatDoor
open Go.RowKit
theorem bitsOf_append (L M:List Nat) (lv p:Nat):bitsOf (L++M) lv p=bitsOf L lv p++bitsOf M lv p:=by
 unfold bitsOf
 rw [List.filter_append,List.map_append]
theorem bitsOf_cons (x:Nat) (M:List Nat) (lv p:Nat):bitsOf (x::M) lv p=if pathN x lv=p then bitB x lv::bitsOf M lv p else bitsOf M lv p:=by
 unfold bitsOf
 rw [List.filter_cons]
 by_cases h:pathN x lv=p
 · simp [h]
 · simp [h]
theorem bitsOf_split (L:List Nat) (k lv p:Nat):bitsOf L lv p=bitsOf (L.take k) lv p++bitsOf (L.drop k) lv p:=by
 rw [←bitsOf_append,List.take_append_drop]
theorem atLv_tlen (L:List Nat) (k s lv:Nat):(bitsOf (L.take k) lv (pathN s lv)).length=atLv L k s lv:=by
 rw [bits_len]
 rfl
theorem bitsOf_ins (L:List Nat) (k s lv:Nat):bitsOf (insN L k s) lv (pathN s lv)=insN (bitsOf L lv (pathN s lv)) (atLv L k s lv) (bitB s lv):=by
 have hl:=atLv_tlen L k s lv
 unfold insN
 rw [bitsOf_append,bitsOf_cons,if_pos rfl]
 conv=>rhs;rw [bitsOf_split L k lv (pathN s lv)]
 rw [←hl,List.take_left,List.drop_left]
theorem bitsOf_ins_ne (L:List Nat) (k s lv p:Nat) (h:pathN s lv≠p):bitsOf (insN L k s) lv p=bitsOf L lv p:=by
 unfold insN
 rw [bitsOf_append,bitsOf_cons,if_neg h,←bitsOf_split]
theorem cut_at {L:List Nat} {k s:Nat} (h:L[k]?=some s):L=L.take k++s::L.drop (k+1):=by
 obtain ⟨hk,hx⟩:=List.getElem?_eq_some_iff.1 h
 rw [←hx,←List.drop_eq_getElem_cons hk,List.take_append_drop]
theorem bitsOf_del {L:List Nat} {k s:Nat} (lv:Nat) (h:L[k]?=some s):bitsOf (delN L k) lv (pathN s lv)=delN (bitsOf L lv (pathN s lv)) (atLv L k s lv):=by
 have hl:=atLv_tlen L k s lv
 have e:bitsOf L lv (pathN s lv)=bitsOf (L.take k) lv (pathN s lv)++bitB s lv::bitsOf (L.drop (k+1)) lv (pathN s lv):=by
  conv=>lhs;rw [cut_at h]
  rw [bitsOf_append,bitsOf_cons,if_pos rfl]
 unfold delN
 rw [bitsOf_append,e]
 generalize bitsOf (L.take k) lv (pathN s lv)=A at hl⊢
 generalize bitsOf (L.drop (k+1)) lv (pathN s lv)=C
 rw [←hl,List.take_left,List.drop_append,List.drop_eq_nil_of_le (by omega),show A.length+1 - A.length=1 by omega]
 rfl
theorem bitsOf_del_ne {L:List Nat} {k s:Nat} (lv p:Nat) (h:L[k]?=some s) (hp:pathN s lv≠p):bitsOf (delN L k) lv p=bitsOf L lv p:=by
 conv=>rhs;rw [cut_at h]
 unfold delN
 rw [bitsOf_append,bitsOf_append,bitsOf_cons,if_neg hp]
theorem take_insN {α:Type} (l:List α) (k:Nat) (x:α) (h:k≤l.length):(insN l k x).take k=l.take k:=by
 unfold insN
 have hl:(l.take k).length=k:=by rw [List.length_take];omega
 rw [List.take_append,hl,Nat.sub_self,List.take_zero,List.append_nil,List.take_take,Nat.min_self]
theorem insN_lt {L:List Nat} {k s M:Nat} (h:∀x∈L,x < M) (hs:s < M):∀x∈insN L k s,x < M:=fun x hx=>by
 rcases List.mem_cons.1 ((insN_perm L k s).mem_iff.1 hx) with rfl | h1
 · exact hs
 · exact h x h1
theorem delN_lt {L:List Nat} {k M:Nat} (h:∀x∈L,x < M):∀x∈delN L k,x < M:=fun x hx=>by
 unfold delN at hx
 rcases List.mem_append.1 hx with h1 | h1
 · exact h x (List.mem_of_mem_take h1)
 · exact h x (List.mem_of_mem_drop h1)
def TC (lv p:Nat):Nat:=16+512*lv+p
theorem TC_inj {lv p lv' p':Nat} (hp:p < 512) (hp':p' < 512) (h:TC lv p=TC lv' p'):lv=lv'∧p=p':=by
 unfold TC at h
 omega
theorem pow9 {lv p:Nat} (h:lv < 9) (hp:p < 2 ^ lv):p < 512:=by
 have:2 ^ lv≤2 ^ 9:=Nat.pow_le_pow_right (by decide) (by omega)
 have e:(2:Nat)^ 9=512:=by decide
 omega
def recol (own:Nat→Nat) (n m c b:Nat):Nat:=if b < n then own b else if b < m then c else 0
structure WaveS (w:World) (B:Nat) (own:Nat→Nat) (gv:Nat) (S:Nat→Value) (Ls:Nat→List Nat) (n v:Int):Prop where
 blk:Bk w gv 174 (wcells S n v)
 base:B≤gv∧own gv=2
 rows:∀lv,lv < 9→∃G:Nat→Nat,w.ownsRow B 177 3 (S lv) (2 ^ lv) (shelfL G lv (2 ^ lv))∧(∀b,(S lv).ownBlock=some b→own b=2)∧∀p,p < 2 ^ lv→TreeE w (fun b=>own b=TC lv p) (G p) (bitsOf (Ls lv) lv p)
 bnd:∀b,own b≠0→B≤b∧b < w.heap.size
def WaveE (w:World) (B:Nat) (own:Nat→Nat) (gv:Nat) (L:List Nat):Prop:=∃S v,WaveS w B own gv S (fun _=>L) (L.length:Int) v
theorem WaveS.vis {w w':World} {B:Nat} {own:Nat→Nat} {gv:Nat} {S:Nat→Value} {Ls:Nat→List Nat} {n v:Int} (h:WaveS w B own gv S Ls n v) (k:Vis w w'):∃v',WaveS w' B own gv S Ls n v':=by
 obtain ⟨v',h1⟩:=k.waveC h.blk
 refine ⟨v',h1,h.base,fun lv hl=>?_,fun b hb=>⟨(h.bnd b hb).1,Nat.lt_of_lt_of_le (h.bnd b hb).2 k.size⟩⟩
 obtain ⟨G,g1,g2,g3⟩:=h.rows lv hl
 exact ⟨G,k.own g1 (by decide) (by decide),g2,fun p hp=>(g3 p hp).vis k⟩
theorem WaveE.vis {w w':World} {B:Nat} {own:Nat→Nat} {gv:Nat} {L:List Nat} (h:WaveE w B own gv L) (k:Vis w w'):WaveE w' B own gv L:=by
 obtain ⟨S,v,h⟩:=h
 obtain ⟨v',h'⟩:=h.vis k
 exact ⟨S,v',h'⟩
theorem WaveE.at {w:World} {B:Nat} {own:Nat→Nat} {gv:Nat} {L:List Nat} (h:WaveE w B own gv L):WaveAt w B gv L:=by
 obtain ⟨S,v,h⟩:=h
 refine ⟨h.base.1,S,v,h.blk,fun lv hl=>?_⟩
 obtain ⟨G,g1,g2,g3⟩:=h.rows lv hl
 refine ⟨G,g1,fun p hp=>⟨?_,(g3 p hp).at⟩⟩
 have h0:=(g3 p hp).1
 exact (h.bnd (G p) (by rw [h0];unfold TC;omega)).1
theorem WaveS.edit {w w':World} {B:Nat} {own:Nat→Nat} {gv:Nat} {S:Nat→Value} {Ls:Nat→List Nat} {n v v':Int} (h:WaveS w B own gv S Ls n v) {lv p gx:Nat} (hlv:lv < 9) (hp:p < 2 ^ lv) {G:Nat→Nat} (hG:w.ownsRow B 177 3 (S lv) (2 ^ lv) (shelfL G lv (2 ^ lv)))
 (hgx:own gx < 16) (hgx2:∀cs,¬Bk w gx 177 cs) {bs':List Bool} (ht:TreeE w' (Gw (fun b=>own b=TC lv p) w.heap.size) (G p) bs') (hk:Keep (fun x=>own x=TC lv p∨x=gv∨x=gx) w w') (hb:Bk w' gv 174 (wcells S n v'))
 {L':List Nat} (hL:bitsOf L' lv p=bs') (hL2:∀q,q≠p→bitsOf L' lv q=bitsOf (Ls lv) lv q):
 WaveS w' B (recol own w.heap.size w'.heap.size (TC lv p)) gv S (fun l=>if l=lv then L' else Ls l) n v':=by
 have hB:B≤w.heap.size:=Nat.le_trans h.base.1 (Nat.le_of_lt h.blk.lt)
 have hold:∀b,b < w.heap.size→recol own w.heap.size w'.heap.size (TC lv p) b=own b:=fun b hb=>by unfold recol;rw [if_pos hb]
 refine ⟨hb,⟨h.base.1,by rw [hold _ h.blk.lt];exact h.base.2⟩,fun l hl=>?_,fun b hb'=>?_⟩
 · obtain ⟨G',g1,g2,g3⟩:=h.rows l hl
   refine ⟨G',own_same g1 fun b cs hbo hk'=>hk.bk hk' fun f=>?_,fun b hbo=>?_,fun q hq=>?_⟩
   · rcases f with f | f | f
     · rw [g2 b hbo] at f
       unfold TC at f
       omega
     · subst f
       exact absurd (bk_inj hk' h.blk).1 (by decide)
     · subst f
       exact hgx2 cs hk'
   · rw [hold _ (g1.lt b hbo).2]
     exact g2 b hbo
   · have hkeep:(l≠lv∨q≠p)→TreeE w' (fun b=>recol own w.heap.size w'.heap.size (TC lv p) b=TC l q) (G' q) (bitsOf (Ls l) l q):=fun hne=>by
        have ht':=(g3 q hq).keep hk fun b t cs hin hk' hf f=>by
         rcases f with f | f | f
         · rw [hf] at f
           obtain ⟨e1,e2⟩:=TC_inj (pow9 hl hq) (pow9 hlv hp) f
           rcases hne with h1 | h1
           · exact h1 e1
           · exact h1 e2
         · subst f
           rw [(bk_inj hk' h.blk).1] at hin
           exact absurd hin (by decide)
         · subst f
           rw [hf] at hgx
           unfold TC at hgx
           omega
        have hmin:TreeE w (fun b=>own b=TC l q) (G' q) (bitsOf (Ls l) l q):=g3 q hq
        refine ht'.mono fun b hb' hf=>?_
        have hlt:b < w.heap.size:=(h.bnd b (by rw [hf];unfold TC;omega)).2
        rw [hold b hlt]
        exact hf
     by_cases e1:l=lv
     · subst e1
       rw [if_pos rfl]
       by_cases e2:q=p
       · subst e2
         rw [hL]
         have hGG:G' q=G q:=by
           have h1:=g1.1
           have e1:=(shelfL_get G' l (2 ^ l) q hq).1
           have e2:=(shelfL_get G l (2 ^ l) q hq).1
           have e3:shelfL G' l (2 ^ l)=shelfL G l (2 ^ l):=by
             rcases g1.2 with ⟨a1,a2⟩|⟨g,cap,cur,a1,a2,a3,a4,a5,a6,a7⟩
             · have:=Nat.two_pow_pos l
               omega
             · rcases hG.2 with ⟨c1,c2⟩|⟨g',cap',cur',c1,c2,c3,c4,c5,c6,c7⟩
               · have:=Nat.two_pow_pos l
                 omega
               · rw [a1] at c1
                 injection c1 with c1 _ _
                 injection c1 with c1
                 injection c1 with c1 _
                 subst c1
                 obtain ⟨_,rfl⟩:=bk_inj a3 c3
                 rw [←a7,←c7]
           rw [e3,e2] at e1
           injection e1 with e1
           injection e1 with e1
           injection e1 with e1
           injection e1 with e1 _
           exact e1.symm
         rw [hGG]
         refine ht.mono fun b hb' hf=>?_
         rcases hf with hf | hf
         · rw [hold b (h.bnd b (by rw [hf];unfold TC;omega)).2]
           exact hf
         · unfold recol
           rw [if_neg (by omega),if_pos hb']
       · rw [hL2 q e2]
         exact hkeep (.inr e2)
     · rw [if_neg e1]
       exact hkeep (.inl e1)
 · unfold recol at hb'
   by_cases c:b < w.heap.size
   · rw [if_pos c] at hb'
     exact ⟨(h.bnd b hb').1,Nat.lt_of_lt_of_le c hk.size⟩
   · rw [if_neg c] at hb'
     by_cases c2:b < w'.heap.size
     · exact ⟨by omega,c2⟩
     · rw [if_neg c2] at hb'
       exact absurd rfl hb'
theorem wcells_n (S:Nat→Value) (n m v:Int):(wcells S n v).setIfInBounds 9 (.int .i64 m)=wcells S m v:=by
 unfold wcells
 rfl
theorem WaveS.set_n {w:World} {B:Nat} {own:Nat→Nat} {gv:Nat} {S:Nat→Value} {Ls:Nat→List Nat} {n v:Int} (h:WaveS w B own gv S Ls n v) (m:Int):WaveS (w.setCell ⟨gv,9,none⟩ (.int .i64 m)) B own gv S Ls m v:=by
 have hk:Keep (fun b=>b=gv) w (w.setCell ⟨gv,9,none⟩ (.int .i64 m)):=Keep.setCell (F:=fun b=>b=gv) (Keep.refl _ _) (p:=⟨gv,9,none⟩) (.inl rfl) _
 refine ⟨by have:=h.blk.set 9 (.int .i64 m);rw [wcells_n] at this;exact this,h.base,fun lv hl=>?_,fun b hb=>⟨(h.bnd b hb).1,Nat.lt_of_lt_of_le (h.bnd b hb).2 hk.size⟩⟩
 obtain ⟨G,g1,g2,g3⟩:=h.rows lv hl
 exact ⟨G,own_same g1 fun b cs _ hk'=>hk.bk hk' (Bk.ne hk' h.blk (by decide)),g2,fun p hp=>(g3 p hp).keep hk fun b t cs hin hk' _ e=>by
  have e':b=gv:=e
  subst e'
  rw [(bk_inj hk' h.blk).1] at hin
  exact absurd hin (by decide)⟩
theorem WaveS.far {w w':World} {B:Nat} {own:Nat→Nat} {gv:Nat} {S:Nat→Value} {Ls:Nat→List Nat} {n v:Int} (h:WaveS w B own gv S Ls n v) {H:Nat→Prop} (k:Keep H w w') (hH:∀b,H b→own b≠2∧own b < 16):WaveS w' B own gv S Ls n v:=by
 refine ⟨k.bk h.blk (fun f=>by have:=hH _ f;have:=h.base.2;omega),h.base,fun lv hl=>?_,fun b hb=>⟨(h.bnd b hb).1,Nat.lt_of_lt_of_le (h.bnd b hb).2 k.size⟩⟩
 obtain ⟨G,g1,g2,g3⟩:=h.rows lv hl
 exact ⟨G,own_same g1 fun b cs hbo hk'=>k.bk hk' (fun f=>by have:=hH _ f;have:=g2 b hbo;omega),g2,fun p hp=>(g3 p hp).keep k fun b t cs hin hk' hf f=>by
  have:=hH b f
  rw [hf] at this
  unfold TC at this
  omega⟩
theorem WaveE.far {w w':World} {B:Nat} {own:Nat→Nat} {gv:Nat} {L:List Nat} (h:WaveE w B own gv L) {H:Nat→Prop} (k:Keep H w w') (hH:∀b,H b→own b≠2∧own b < 16):WaveE w' B own gv L:=by
 obtain ⟨S,v,h⟩:=h
 exact ⟨S,v,h.far k hH⟩
theorem WaveS.paint {w:World} {B:Nat} {own own':Nat→Nat} {gv:Nat} {S:Nat→Value} {Ls:Nat→List Nat} {n v:Int} (h:WaveS w B own gv S Ls n v) (h1:∀b,b < w.heap.size→2≤own b→own' b=own b) (h2:∀b,own' b≠0→B≤b∧b < w.heap.size):WaveS w B own' gv S Ls n v:=by
 refine ⟨h.blk,⟨h.base.1,by rw [h1 gv h.blk.lt (by rw [h.base.2];omega)];exact h.base.2⟩,fun lv hl=>?_,h2⟩
 obtain ⟨G,g1,g2,g3⟩:=h.rows lv hl
 refine ⟨G,g1,fun b hbo=>?_,fun p hp=>(g3 p hp).mono fun b hb hf=>?_⟩
 · rw [h1 b (g1.lt b hbo).2 (by rw [g2 b hbo];omega)]
   exact g2 b hbo
 · rw [h1 b hb (by rw [hf];unfold TC;omega)]
   exact hf
theorem WaveE.paint {w:World} {B:Nat} {own own':Nat→Nat} {gv:Nat} {L:List Nat} (h:WaveE w B own gv L) (h1:∀b,b < w.heap.size→2≤own b→own' b=own b) (h2:∀b,own' b≠0→B≤b∧b < w.heap.size):WaveE w B own' gv L:=by
 obtain ⟨S,v,h⟩:=h
 exact ⟨S,v,h.paint h1 h2⟩
theorem Get1_any (gt gk gn:Nat) (lv p:Int) (x:Value) (bs:List Bool) (k:Nat) (w:World) (ht:TreeAt w gt bs) (hk:Bk w gk 3 #[.int .i64 (k:Int)]) (hn:Bk w gn 4 #[x]) (hkl:k < bs.length):
 Calls Tryz.prog 131 #[.agg #[.pointer (some ⟨gt,0,none⟩),.int .i64 lv,.int .i64 p],.pointer (some ⟨gk,0,none⟩),.pointer (some ⟨gn,0,none⟩)] w fun e w'=>e=.returned (.tuple #[])∧
  ∃w1,VisK (fun b=>b=gt) w w1∧Bk w1 gn 4 #[x]∧w'=w1.setCell ⟨gn,0,none⟩ (.bool (bs.getD k false)):=by
 have c1:w.cell? ⟨gk,0,none⟩=some (.int .i64 (k:Int)):=(hk.cell 0).trans rfl
 have l1:=hk.lt
 have l3:=hn.lt
 obtain ⟨bb,hbb⟩:∃b,bs.getD k false=b:=⟨_,rfl⟩
 rw [hbb]
 have Hbb:=lhd hbb
 have Ht:=lhd ht
 have Hn:=lhd hn
 have Hkl:=lhd hkl
 clear ht hk hn hbb hkl
 go_enter Tryz.func131,Tryz.ntmps131
 go_wp2_with fail
 refine (TreeGet_any gt bs k _ (Ht.out.below ((Below.refl _ _).alloc (Nat.le_refl _) _)) Hkl.out).mono ?_
 rintro e w1 ⟨rfl,hv⟩
 rw [Hbb.out]
 have hv0:VisK (fun b=>b=gt) w w1:=(VisK.of_below ((Below.refl _ _).alloc (Nat.le_refl _) _)).trans hv
 have hn1:=hv0.1.bk Hn.out (by decide) (by decide)
 have c3:w1.cell? ⟨gn,0,none⟩=some x:=(hn1.cell 0).trans rfl
 have f3:=hn1.frozen 0
 have HV:=lhd hv0
 have Hn1:=lhd hn1
 clear hv hv0 hn1
 go_wp2_with fail
 go_end0
 exact ⟨rfl,w1,HV.out,Hn1.out,rfl⟩
theorem LookG_any (gv gt gk gn:Nat) (S:Nat→Value) (n v lv p:Int) (x:Value) (bs:List Bool) (k:Nat) (w0 w:World) (hw:Bk w gv 174 (wcells S n v)) (ht0:TreeAt w0 gt bs) (hv0:Vis w0 w) (hg0:w0.heap.size≤gn) (hk:Bk w gk 3 #[.int .i64 (k:Int)]) (hn:Bk w gn 4 #[x]) (hkl:k < bs.length):
 Calls Tryz.prog 130 #[.pointer (some ⟨gv,0,none⟩),.agg #[.pointer (some ⟨gt,0,none⟩),.int .i64 lv,.int .i64 p],.func (.func 131) #[] #[.pointer (some ⟨gk,0,none⟩),.pointer (some ⟨gn,0,none⟩)]] w fun e w'=>e=.returned (.tuple #[])∧
  VisF (fun b=>b=gn) w w'∧Keep (fun b=>b=gv∨b=gt∨b=gn) w w'∧Bk w' gn 4 #[.bool (bs.getD k false)]:=by
 have ht:=ht0.vis hv0
 obtain ⟨bb,hbb⟩:∃b,bs.getD k false=b:=⟨_,rfl⟩
 rw [hbb]
 have Hbb:=lhd hbb
 have Ht0:=lhd ht0
 have HV0:=lhd hv0
 clear hbb ht0 hv0
 obtain ⟨o,ho⟩:∃o,Obj.cells #[.pointer (some ⟨gt,0,none⟩),.int .i64 lv,.int .i64 p] 177=o:=⟨_,rfl⟩
 have hal:=(Below.refl w.heap.size w).alloc (Nat.le_refl _) o
 have hs1:=Bk.new w 177 #[.pointer (some ⟨gt,0,none⟩),.int .i64 lv,.int .i64 p]
 rw [ho] at hs1
 have l1:=hk.lt
 have l3:=hn.lt
 have l4:=hw.lt
 have n1:=Bk.ne hn hw (by decide)
 have Ht:=lhd ht
 have Hn:=lhd hn
 have Hk:=lhd hk
 have Hw:=lhd hw
 have HA:=lhd hal
 have Hs:=lhd hs1
 have Ho:=lhd ho
 clear ht hk hn hw hal hs1 ho
 go_enter Tryz.func130,Tryz.ntmps130
 go_wp2_with fail
 rw [Ho.out]
 refine (Get1_any gt gk gn lv p x bs k _ (Ht.out.below HA.out) (Hk.out.alloc _) (Hn.out.alloc _) hkl).mono ?_
 rintro e w2 ⟨rfl,w1,hv1,hn1,rfl⟩
 rw [Hbb.out]
 obtain ⟨v1,hw1⟩:=((Vis.of_below HA.out).trans hv1.1).waveC Hw.out
 have hw2:=hw1.far (p:=⟨gn,0,none⟩) (fun h=>n1 h.symm) (.bool bb)
 have ht1:=Ht.out.vis ((Vis.of_below HA.out).trans hv1.1)
 have ht2:TreeAt (w1.setCell ⟨gn,0,none⟩ (.bool bb)) gt bs:=Ht0.out.vis (((HV0.out.trans (Vis.of_below HA.out)).trans hv1.1).fresh (p:=⟨gn,0,none⟩) hg0 _)
 obtain ⟨vt,hvt⟩:=ht2.visits
 have hs2:=(hv1.1.bk Hs.out (by decide) (by decide)).far (p:=⟨gn,0,none⟩) (fun h=>absurd (show w.heap.size=gn from h) (by omega)) (.bool bb)
 have hnn:=hn1.set 0 (.bool bb)
 have hfin:VisF (fun b=>b=gn) w (w1.setCell ⟨gn,0,none⟩ (.bool bb)):=VisF.put (F:=fun b=>b=gn) (VisF.of_vis ((Vis.of_below HA.out).trans hv1.1)) (p:=⟨gn,0,none⟩) (.inl rfl) _
 have hkp:Keep (fun b=>b=gv∨b=gt∨b=gn) w (w1.setCell ⟨gn,0,none⟩ (.bool bb)):=Keep.setCell (F:=fun b=>b=gv∨b=gt∨b=gn) ((Keep.of_below HA.out).trans (hv1.2.mono fun b _ e=>.inr (.inl e))) (p:=⟨gn,0,none⟩) (.inl (.inr (.inr rfl))) _
 obtain ⟨W,hW⟩:∃W,w1.setCell ⟨gn,0,none⟩ (.bool bb)=W:=⟨_,rfl⟩
 rw [hW] at hw2 ht2 hvt hs2 hnn hfin hkp⊢
 have s0:W.cell? ⟨w.heap.size,0,none⟩=some (.pointer (some ⟨gt,0,none⟩)):=(hs2.cell 0).trans rfl
 have Hw2:=lhd hw2
 have Hs2:=lhd hs2
 have HN:=lhd hnn
 have HF:=lhd hfin
 have HK:=lhd hkp
 have Ht2:=lhd ht2
 have Hvt:=lhd hvt
 have htlt:=ht2.lt
 have hslt:=hs2.lt
 have hgs:=Bk.ne hw2 hs2 (by decide)
 have hgn:=Bk.ne hw2 hnn (by decide)
 have hgvt:gt≠gv:=by
  rintro rfl
  obtain ⟨ga,v,⟨_,_,h2⟩|⟨_,_,_,_,_,h3⟩⟩:=Ht2.out
  · exact absurd (bk_inj h2 Hw2.out).1 (by decide)
  · exact absurd (bk_inj h3.tree Hw2.out).1 (by decide)
 clear hw2 hs2 hnn hfin hkp ht2 hvt hW hw1 ht1 hn1 hv1 HA Ht Hn Hk Hw Hs s0
 go_wp2_with fail
 refine wp_region_any (by kernel_rfl) ?_
 refine wpAny_keep [9,10,11,12,13,14,15,16,17,18] (fun b=>b=gv) 10 [3,10] (fun w2=>Bk w2 gv 174 (wcells S n v1)) (fun _ w2=>Bk w2 gv 174 (wcells S n (IntKind.i64.wrap (v1+vt)))) [is (.pointer (some ⟨gv,0,none⟩)),is (.pointer (some ⟨gv,0,none⟩)),is (.pointer (some ⟨gv,10,none⟩)),is (.int .i64 v1),is (.pointer (some ⟨w.heap.size,0,none⟩)),is (.pointer (some ⟨gt,0,none⟩)),is (.int .i64 vt),is (.int .i64 (IntKind.i64.wrap (v1+vt))),is (.pointer (some ⟨gv,0,none⟩)),is (.pointer (some ⟨gv,10,none⟩)),anyV] _ _ rfl (by kernel_rfl) (by kernel_rfl) (Hw2.out) (fun w2 w3 h _ hg=>Bk.below h hg h.lt) (fun _ _ _ h k=>Bk.below h k h.lt) (by repeat' (first | exact stbk_is _ _ | exact stbk_any _ |(refine List.forall_mem_cons.2 ⟨?_,?_⟩)|(intro p hp;cases hp))) ?_ ?_
 · refine steps_of ?_
   refine steps_cons (step_on3 rfl rfl fun ev _ _ _ _ _ hold _ _ _ _ hK=>?_) ?_
   · have e0:ev (.tmp 0)=.pointer (some ⟨gv,0,none⟩):=hold 0 (by kernel_rfl)
     go_simp
     exact kq hK rfl
   refine steps_cons (step_on3 rfl rfl fun _ _ _ _ _ _ _ hval _ _ _ hK=>?_) ?_
   · have e9:_=_:=hval 0 9 (by kernel_rfl) rfl
     go_simp
     exact kq hK rfl
   refine steps_cons (step_on3 rfl rfl fun _ _ _ _ _ _ _ hval _ _ _ hK=>?_) ?_
   · have e10:_=_:=hval 1 10 (by kernel_rfl) rfl
     go_simp
     exact kq hK rfl
   refine steps_cons (step_on3 rfl rfl fun _ w5 _ hU _ _ _ hval _ _ _ hK=>?_) ?_
   · have hpre:=hU rfl
     have e11:_=_:=hval 2 11 (by kernel_rfl) rfl
     have c12:w5.cell? ⟨gv,10,none⟩=some (.int .i64 v1):=(hpre.cell 10).trans (wcells_get _ _ _).2.2.2.2.2.2.2.2.2.2
     go_simp
     exact kq hK rfl
   refine steps_cons (step_on3 rfl rfl fun ev _ _ _ _ _ hold _ _ _ _ hK=>?_) ?_
   · have e4:ev (.tmp 4)=.pointer (some ⟨w.heap.size,0,none⟩):=hold 4 (by kernel_rfl)
     go_simp
     exact kq hK rfl
   refine steps_cons (step_on3 rfl rfl fun _ w5 hS _ _ _ _ hval _ _ _ hK=>?_) ?_
   · replace hS:Keep (fun b=>b=gv) W w5:=⟨hS.os,hS.tape,hS.output,hS.size,hS.block⟩
     have e13:_=_:=hval 4 13 (by kernel_rfl) rfl
     have c14:w5.cell? ⟨w.heap.size,0,none⟩=some (.pointer (some ⟨gt,0,none⟩)):=((hS.bk Hs2.out (fun h=>hgs (show w.heap.size=gv from h).symm)).cell 0).trans rfl
     go_simp
     exact kq hK rfl
   refine steps_cons (step_on3 rfl rfl fun _ w5 hS _ _ _ _ hval _ _ _ hK=>?_) ?_
   · replace hS:Keep (fun b=>b=gv) W w5:=⟨hS.os,hS.tape,hS.output,hS.size,hS.block⟩
     have e14:_=_:=hval 5 14 (by kernel_rfl) rfl
     go_simp
     refine (TreeVisits_any gt vt w5 ((hS.cell htlt hgvt).trans Hvt.out)).mono ?_
     rintro e w8 ⟨rfl,hb8⟩
     exact hK _ _ (kstep_grow hb8) rfl
   refine steps_cons (step_on3 rfl rfl fun _ _ _ _ _ _ _ hval _ _ _ hK=>?_) ?_
   · have e12:_=_:=hval 3 12 (by kernel_rfl) rfl
     have e15:_=_:=hval 6 15 (by kernel_rfl) rfl
     go_simp
     exact kq hK rfl
   refine steps_cons (step_on3 rfl rfl fun _ _ _ _ _ _ _ hval _ _ _ hK=>?_) ?_
   · have e9:_=_:=hval 0 9 (by kernel_rfl) rfl
     go_simp
     exact kq hK rfl
   refine steps_cons (step_on3 rfl rfl fun _ _ _ _ _ _ _ hval _ _ _ hK=>?_) ?_
   · have e17:_=_:=hval 8 17 (by kernel_rfl) rfl
     go_simp
     exact kq hK rfl
   refine steps_cons (step_on3 rfl rfl fun _ w5 _ hU _ _ _ hval _ _ _ hK=>?_) ?_
   · have hpre:=hU rfl
     have e18:_=_:=hval 9 18 (by kernel_rfl) rfl
     have e16:_=_:=hval 7 16 (by kernel_rfl) rfl
     have c18:w5.cell? ⟨gv,10,none⟩=some (.int .i64 v1):=(hpre.cell 10).trans (wcells_get _ _ _).2.2.2.2.2.2.2.2.2.2
     have f18:=hpre.frozen 10
     go_simp
     refine hK (.bool true) _ (kstep_keep (Keep.setCell (F:=fun b=>b=gv) (Keep.refl _ _) (p:=⟨gv,10,none⟩) (.inl rfl) _)) ?_
     rw [←wcells_visits S n v1]
     exact hpre.set 10 _
   exact steps_nil
 · intro ev w6 hS hval hall
   replace hS:Keep (fun b=>b=gv) W w6:=⟨hS.os,hS.tape,hS.output,hS.size,hS.block⟩
   obtain ⟨vJ,pJ⟩:∃vJ0,(fun _ w2=>Bk w2 gv 174 (wcells S n (IntKind.i64.wrap (v1+vt)))) vJ0 w6:=hall 10 (by decide)
   simp only [putsOf,List.foldl_cons,List.foldl_nil,Act.put,List.setIfInBounds_toArray,List.set_cons_zero,List.set_cons_succ]
   clear hval hall
   have hv6:=Vis.of_wave hS Hw2.out pJ
   have h1:=VisF.trans HF.out (VisF.of_vis hv6)
   have h2:=HK.out.trans (hS.mono fun b _ e=>.inl e)
   have h3:=hS.bk HN.out (fun e=>hgn (show gn=gv from e).symm)
   have H1:=lhd h1
   have H2:=lhd h2
   have H3:=lhd h3
   clear hv6 h1 h2 h3 pJ hS
   go_wp2_with fail
   go_end0
   exact ⟨rfl,H1.out,H2.out,H3.out⟩
theorem SnapPart_any (A:Option Addr) (n c B:Nat) (b:List UInt8) (w:World) (hr:Rd w B 1 A n (b.map bv)) (hB:B≤w.heap.size) (hn:n≤1000000):
 Calls Tryz.prog 75 #[.slice A n c] w fun e w'=>∃A' c',e=.returned (.slice A' (partB b).length c')∧Made w' w.heap.size 5 1 A' (partB b).length c' ((partB b).map bv)∧Below w.heap.size w w':=by
 have hbl:b.length=n:=by have:=hr.1;simpa using this
 obtain ⟨k0,hk0⟩:∃k0,(encB n).length=k0:=⟨_,rfl⟩
 have hk1:k0≤11:=by rw [←hk0];exact encB_len n
 obtain ⟨N,hN⟩:∃N,(partB b).length=N:=⟨_,rfl⟩
 have hN2:N≤2000000:=by rw [←hN,partB_len,hbl,hk0];omega
 have H:=lhd (hr.mono hB)
 have Hk0:=lhd hk0
 have HN:=lhd hN
 have Hbl:=lhd hbl
 have hcl:=crcB_lt b
 rw [hN]
 clear hr hk0 hN hbl
 go_enter Tryz.func75,Tryz.ntmps75
 go_wp2_with fail
 refine (Put_is _ _ _ _ [n] _ (encB n) k0 (encAll_one n) Hk0.out (Rd.made _ _ 1 1 _ rfl) (Nat.le_refl _) (by simp;omega) (by omega)).mono ?_
 rintro e w1 ⟨A1,c1,rfl,hm1,hb1⟩
 have hb1':=((Below.refl w.heap.size w).alloc (Nat.le_refl _) _).trans (hb1.mono (by simp))
 have hr1:=hm1.rd
 have HA1:=lhd (H.out.below hb1')
 have Hr1:=lhd hr1
 have Hb1:=lhd hb1'
 have hs1:=hb1'.size
 clear hm1 hb1 hb1' hr1
 go_wp2_with fail
 refine (CrcOf_any A _ n c _ b _ (((HA1.out.alloc hs1 _).mono (by simp;omega))) (by omega) (Rd.made _ _ 1 1 _ rfl)).mono ?_
 rintro e w2 ⟨rfl,hb2⟩
 have hb12:=((Below.refl w1.heap.size w1).alloc (Nat.le_refl _) _).trans (hb2.mono (by simp))
 have HA2:=lhd (HA1.out.below (hb12.mono hs1))
 have Hr2:=lhd (Hr1.out.below hb12)
 have Hb2:=lhd (Hb1.out.trans (hb12.mono hs1))
 have hs2:=hb12.size
 clear hb12 hb2 HA1 Hr1 Hb1
 go_wp2_with fail
 refine (Fixed_any (crcB b) _).mono ?_
 rintro e w3 ⟨A3,c3,rfl,hm3,hb3⟩
 have hr3:=hm3.rd
 have HA3:=lhd (HA2.out.below (hb3.mono (by omega)))
 have Hr3:=lhd (Hr2.out.below (hb3.mono (by omega)))
 have Hf3:=lhd hr3
 have Hb3:=lhd (Hb2.out.trans (hb3.mono (by omega)))
 have hs3:=hb3.size
 clear hb3 hm3 hr3 HA2 Hr2 Hb2
 go_wp2_with fail
 have hcat:=Concat_any (some ⟨w3.heap.size,0,none⟩) 3 3 (w3.heap.size+1) [⟨A1,k0,c1,encB n⟩,⟨A,n,c,b⟩,⟨A3,4,c3,fixB (crcB b)⟩] (partB b) N (by unfold partB;rw [Hbl.out];simp [catS]) HN.out (w3.alloc (.cells #[.slice A1 k0 c1,.slice A n c,.slice A3 4 c3] 23)) ((Rd.made w3 _ 1 3 _ rfl).mono (by simp)) (by
  intro s hs
  simp at hs
  rcases hs with rfl | rfl | rfl
  · exact (Hr3.out.mono (by omega)).alloc (by omega) _ |>.mono (by omega)
  · exact (HA3.out.mono (by omega)).alloc (by omega) _ |>.mono (by omega)
  · exact (Hf3.out.alloc (by omega) _).mono (by omega)) (by simp) (by omega) (by omega)
 refine hcat.mono ?_
 clear hcat
 rintro e w4 ⟨A4,c4,rfl,hm4,hb4⟩
 have Hm4:=lhd (hm4.mono (B':=w.heap.size) (by simp;have:=Hb3.out.size;omega))
 have Hb4:=lhd (Hb3.out.trans ((((Below.refl w3.heap.size w3).alloc (Nat.le_refl _) _).trans (hb4.mono (by simp))).mono Hb3.out.size))
 clear hm4 hb4
 go_wp2_with fail
 go_ret
 exact ⟨_,_,rfl,Hm4.out,Hb4.out⟩
end Go.Proofs.YtipaccakmndkgaaGreatDoor
