/- The walk of the wave's New: the wave owns its blocks (WaveE). Conditions: at most 128 symbols, below 257. -/
import Derived.Test.YtipaccakmndkgaaGreatDoorPsl15
import Derived.Test.YtipaccakmndkgaaGreatDoorPsl23
set_option linter.unusedVariables false
set_option linter.unusedSimpArgs false
set_option maxRecDepth 100000
set_option maxHeartbeats 4000000
namespace Go.Proofs.YtipaccakmndkgaaGreatDoor
open Go.RowKit
theorem TreeE.keepT {w w':World} {F P:Nat→Prop} {gt:Nat} {bs:List Bool} (h:TreeE w P gt bs) (k:Keep F w w') (hf:∀b,F b→∃t cs,Bk w b t cs∧(t=174∨t=177)):TreeE w' P gt bs:=
 h.keep k fun b t cs ht hb _ f=>by
  obtain ⟨t',cs',hb',h'⟩:=hf b f
  rw [(bk_inj hb hb').1] at ht
  rcases h' with rfl | rfl <;>(revert ht;decide)
theorem TreeE.typed {w:World} {F:Nat→Prop} {gt:Nat} {bs:List Bool} (h:TreeE w F gt bs):TreeE w (fun b=>F b∧∃t cs,Bk w b t cs∧t∈ [226,217,229,254,4,3]) gt bs:=by
 have har:∀ {ga:Nat} {tk:List Bool} {fr:List Nat},ArenaE w F ga tk fr→ArenaE w (fun b=>F b∧∃t cs,Bk w b t cs∧t∈ [226,217,229,254,4,3]) ga tk fr:=fun ⟨h0,At,ct,Af,cf,h1,h2,h3,h4,h5⟩=>
  ⟨⟨h0,_,_,h1,by decide⟩,At,ct,Af,cf,h1,h2,h3,fun b hb=>⟨h4 b hb,by obtain ⟨cs,hc⟩:=own_ty h2 hb;exact ⟨_,cs,hc,by decide⟩⟩,fun b hb=>⟨h5 b hb,by obtain ⟨cs,hc⟩:=own_ty h3 hb;exact ⟨_,cs,hc,by decide⟩⟩⟩
 obtain ⟨h0,ga,v,⟨h1,h2,h3,h4⟩|⟨h1,gl,cl,l8,h2,h3,h4,h5⟩|⟨h1,h2,gl,cl,gb,h3,h4,h5,h6⟩⟩:=h
 · exact ⟨⟨h0,_,_,h3,by decide⟩,ga,v,.inl ⟨h1,⟨h2,_,_,h4,by decide⟩,h3,h4⟩⟩
 · exact ⟨⟨h0,_,_,h3,by decide⟩,ga,v,.inr (.inl ⟨h1,gl,cl,l8,⟨h2,by obtain ⟨cs,hc⟩:=own_ty h4 (b:=gl) rfl;exact ⟨_,cs,hc,by decide⟩⟩,h3,h4,har h5⟩)⟩
 · exact ⟨⟨h0,_,_,h5.tree,by decide⟩,ga,v,.inr (.inr ⟨h1,h2,gl,cl,gb,⟨h3,by obtain ⟨cs,hc⟩:=own_ty h5.row (b:=gl) rfl;exact ⟨_,cs,hc,by decide⟩⟩,⟨h4,_,_,h5.blk,by decide⟩,h5,har h6⟩)⟩
def ShelfE (w:World) (own:Nat→Nat) (B:Nat) (v:Value) (L:List Nat) (lv m:Nat):Prop:=
 ∃G:Nat→Nat,w.ownsRow B 177 3 v m (shelfL G lv m)∧(∀b,v.ownBlock=some b→own b=2)∧∀p,p < m→TreeE w (fun b=>own b=TC lv p) (G p) (bitsOf L lv p)
theorem ShelfE.keepW {w w':World} {gv B:Nat} {own:Nat→Nat} {cs:Array Value} {v:Value} {L:List Nat} {lv m:Nat} (h:ShelfE w own B v L lv m) (k:Keep (fun b=>b=gv) w w') (hw:Bk w gv 174 cs):ShelfE w' own B v L lv m:=by
 obtain ⟨G,h1,h2,h3⟩:=h
 refine ⟨G,own_same h1 fun b cs' _ hb=>k.bk hb fun e=>?_,h2,fun p hp=>(h3 p hp).keepT k fun b e=>?_⟩
 · have e':b=gv:=e
   subst e'
   exact absurd (bk_inj hb hw).1 (by decide)
 · have e':b=gv:=e
   subst e'
   exact ⟨_,cs,hw,.inl rfl⟩
theorem ShelfE.mono {w:World} {own own':Nat→Nat} {B B':Nat} {v:Value} {L:List Nat} {lv m:Nat} (h:ShelfE w own B v L lv m) (hB:B'≤B) (ho:∀b,b < w.heap.size→own b≠0→own' b=own b):ShelfE w own' B' v L lv m:=by
 obtain ⟨G,h1,h2,h3⟩:=h
 refine ⟨G,own_mono h1 hB,fun b hb=>?_,fun p hp=>(h3 p hp).mono fun b hlt f=>?_⟩
 · have:=h2 b hb
   rw [ho b (h1.lt b hb).2 (by omega)]
   exact this
 · have f':own b=TC lv p:=f
   rw [ho b hlt (by rw [f'];unfold TC;omega)]
   exact f'
structure RowsE (w:World) (own:Nat→Nat) (B gv:Nat) (S:Nat→Value) (L:List Nat) (lv:Nat):Prop where
 bnd:∀b,own b≠0→B≤b∧b < w.heap.size
 gv2:own gv=2
 rows:∀j,j < lv→ShelfE w own B (S j) L j (2 ^ j)
theorem one_bnd {gv B n:Nat} (h:B≤gv∧gv < n):∀b,(if b=gv then 2 else 0)≠0→B≤b∧b < n:=fun b hb=>by
 by_cases c:b=gv
 · subst c
   exact h
 · rw [if_neg c] at hb
   exact absurd rfl hb
def ownT (own:Nat→Nat) (n:Nat) (v:Option Nat) (m c b:Nat):Nat:=if b < n then own b else if v=some b then 2 else if b < m then c else 0
theorem ShelfE.next {w w':World} {own:Nat→Nat} {B gt lv p:Nat} {v v':Value} {L:List Nat} {G:Nat→Nat} {H:Nat→Prop} (hlv:lv < 9) (hp:p < 2 ^ lv) (hown:w.ownsRow B 177 3 v p (shelfL G lv p)) (h2:∀b,v.ownBlock=some b→own b=2) (h3:∀q,q < p→TreeE w (fun b=>own b=TC lv q) (G q) (bitsOf L lv q))
 (hbn:∀b,own b≠0→b < w.heap.size) (k:Keep H w w') (hH:∀b,H b→∃t cs,Bk w b t cs∧(t=174∨t=177)) (ht:TreeE w' (fun b=>w.heap.size≤b) gt (bitsOf L lv p)) (hown':w'.ownsRow B 177 3 v' (p+1) (shelfL G lv p++ [.pointer (some ⟨gt,0,none⟩),.int .i64 (lv:Int),.int .i64 (p:Int)]))
 (hv:v'.ownBlock=v.ownBlock∨∃g,v'.ownBlock=some g∧w.heap.size≤g):ShelfE w' (ownT own w.heap.size v'.ownBlock w'.heap.size (TC lv p)) B v' L lv (p+1):=by
 have hold:∀b,b < w.heap.size→ownT own w.heap.size v'.ownBlock w'.heap.size (TC lv p) b=own b:=fun b hb=>by unfold ownT;rw [if_pos hb]
 refine ⟨fun i=>if i=p then gt else G i,?_,fun b hb=>?_,fun q hq=>?_⟩
 · rw [shelfL_succ,shelfL_congr (fun i=>if i=p then gt else G i) G lv p (fun i hi=>if_neg (by omega)),if_pos rfl]
   exact hown'
 · rcases hv with e |⟨g,e,hg⟩
   · rw [e] at hb
     rw [hold b (hown.lt b hb).2]
     exact h2 b hb
   · rw [e] at hb
     injection hb with hb
     subst hb
     unfold ownT
     rw [if_neg (by omega),if_pos e]
 · show TreeE w' _ (if q=p then gt else G q) _
   by_cases c:q=p
   · subst c
     rw [if_pos rfl]
     refine ht.typed.mono fun b hlt f=>?_
     obtain ⟨f1,t,cs,hb,hty⟩:=f
     unfold ownT
     rw [if_neg (by omega),if_neg (fun e=>?_),if_pos hlt]
     obtain ⟨cs',hc⟩:=own_ty hown' e
     rw [(bk_inj hb hc).1] at hty
     revert hty
     decide
   · rw [if_neg c]
     refine ((h3 q (by omega)).keepT k hH).mono fun b hlt f=>?_
     have f':own b=TC lv q:=f
     have hb:=hbn b (by rw [f'];unfold TC;omega)
     rw [hold b hb]
     exact f'
theorem ownT_bnd {own:Nat→Nat} {n m c B:Nat} {v:Option Nat} (hb:∀b,own b≠0→B≤b∧b < n) (hn:n≤m) (hB:B≤n) (hv:∀b,v=some b→b < m):∀b,ownT own n v m c b≠0→B≤b∧b < m:=fun b hne=>by
 unfold ownT at hne
 by_cases c1:b < n
 · rw [if_pos c1] at hne
   have:=hb b hne
   exact ⟨this.1,by omega⟩
 · rw [if_neg c1] at hne
   by_cases c2:v=some b
   · have:=hv b c2
     exact ⟨by omega,this⟩
   · rw [if_neg c2] at hne
     by_cases c3:b < m
     · exact ⟨by omega,c3⟩
     · rw [if_neg c3] at hne
       exact absurd rfl hne
theorem WaveNewE_any (A:Option Addr) (m0 c B:Nat) (L:List Nat) (w:World) (hr:Rd w B 1 A m0 (L.map sv)) (hB:B≤w.heap.size) (hm:m0≤128) (hL:∀s∈L,s < 257):
 Calls Tryz.prog 180 #[.slice A m0 c] w fun e w'=>∃gv own,e=.returned (.tuple #[.pointer (some ⟨gv,0,none⟩),.int .i64 0])∧WaveE w' w.heap.size own gv L∧Below w.heap.size w w':=by
 have hll:L.length=m0:=by simpa using hr.1
 have Hr:=lhd hr
 have HL:=lhd hL
 have Hll:=lhd hll
 have HB:=lhd hB
 obtain ⟨gv,hgv⟩:∃gv,w.heap.size=gv:=⟨_,rfl⟩
 obtain ⟨W,hW⟩:∃W,w.alloc (.cells #[.slice none 0 0,.slice none 0 0,.slice none 0 0,.slice none 0 0,.slice none 0 0,.slice none 0 0,.slice none 0 0,.slice none 0 0,.slice none 0 0,.int .i64 (m0:Int),.int .i64 0] 174)=W:=⟨_,rfl⟩
 have hbw:Bk W gv 174 (wcells (fun _=>.slice none 0 0) (m0:Int) 0):=by
  rw [←hW,←hgv]
  have h:=Bk.new w 174 #[.slice none 0 0,.slice none 0 0,.slice none 0 0,.slice none 0 0,.slice none 0 0,.slice none 0 0,.slice none 0 0,.slice none 0 0,.slice none 0 0,.int .i64 (m0:Int),.int .i64 0]
  unfold wcells
  exact h
 have hbW:Below w.heap.size w W:=by
  rw [←hW]
  exact (Below.refl _ _).alloc (Nat.le_refl _) _
 have Hbw:=lhd hbw
 have HbW:=lhd hbW
 have HW:=lhd hW
 have Hgv:=lhd hgv
 clear hr hL hll hbw hbW hW hB
 go_enter Tryz.func180,Tryz.ntmps180
 go_wp2_with fail
 rw [HW.out]
 try rw [Hgv.out]
 go_loopw [20] (fun i wr=>∃k:Nat,k≤m0∧i=.int .i64 k∧Below W.heap.size W wr) (fun i _=>m0 -(intOf i).toNat)
 case atStart=>exact ⟨0,by omega,rfl,Below.refl _ _⟩
 case round=>
  obtain ⟨k,hk,rfl,hb⟩:=hrel
  have hsz:=hb.size
  have hsW:=HbW.out.size
  by_cases hlt:k < m0
  · have hkl:k < L.length:=by rw [Hll.out];exact hlt
    obtain ⟨s,hs⟩:∃s,L[k]?=some s:=⟨L[k],List.getElem?_eq_getElem hkl⟩
    obtain ⟨b,off,u,rfl,hbl,hu,hc⟩:=(((Hr.out.mono HB.out).below HbW.out).below (hb.mono hsW)).get hlt
    rw [List.getElem?_map,hs] at hu
    simp at hu
    subst hu
    have hs257:s < 257:=HL.out s (List.mem_of_getElem? hs)
    unfold sv at hc
    clear hs
    go_wp2_with fail
    refine (SymIs_any s _ hs257).mono ?_
    rintro e w1 ⟨rfl,hb1⟩
    have hb2:=hb.trans (hb1.mono hsz)
    go_wp2_with fail
    go_roundw
    case rel=>exact ⟨k+1,by omega,by go_num,hb2⟩
    case measure=>simp [intOf];omega
  · have hkm:k=m0:=by omega
    subst hkm
    have HB1:=lhd hb
    clear hb
    go_wp2_with fail
    go_loopw [28] (fun i wr=>∃lv:Nat,lv≤9∧i=.int .i64 lv∧Below w.heap.size w wr∧W.heap.size≤wr.heap.size∧∃S own0,Bk wr gv 174 (wcells S (k:Int) 0)∧RowsE wr own0 w.heap.size gv S L lv∧(∀j,lv≤j→S j=.slice none 0 0)) (fun i _=>9 -(intOf i).toNat)
    case atStart=>exact ⟨0,by omega,rfl,HbW.out.trans (HB1.out.mono hsW),hsz,_,fun b=>if b=gv then 2 else 0,Hbw.out.below HB1.out Hbw.out.lt,⟨one_bnd ⟨by have:=Hgv.out;omega,Nat.lt_of_lt_of_le Hbw.out.lt hsz⟩,if_pos rfl,fun j hj=>absurd hj (by omega)⟩,fun j _=>rfl⟩
    case round=>
        obtain ⟨lv,hlv,rfl,hbw,hWr,S,own0,hbS,hrows,hnils⟩:=hrel
        by_cases hl9:lv < 9
        · obtain ⟨Wv,hWv⟩:∃Wv,Wv=wr:=⟨_,rfl⟩
          subst hWv
          obtain ⟨m,hm⟩:∃m,2 ^ lv=m:=⟨_,rfl⟩
          have hm9:m≤512:=by
           rw [←hm]
           exact Nat.le_trans (Nat.pow_le_pow_right (by decide) (by omega:lv≤9)) (by decide)
          have hmk:=run_bits m (by omega)
          have hm1:(2:Int)^ lv=(m:Int):=by
           rw [←hm]
           push_cast
           rfl
          obtain ⟨gB,hgB⟩:∃gB,Wv.heap.size=gB:=⟨_,rfl⟩
          obtain ⟨Wl,hWl⟩:∃Wl,Wv.alloc (.cells (rowC (fun _=>.slice none 0 0) m) 209)=Wl:=⟨_,rfl⟩
          have hbl0:Bk Wl gB 209 (rowC (fun _=>.slice none 0 0) m):=by
           rw [←hWl,←hgB]
           exact Bk.new _ _ _
          have hbits0:=Bits.start Wl Wv.heap.size gB m hbl0
          have hbWl:Below Wv.heap.size Wv Wl:=by
           rw [←hWl]
           exact (Below.refl _ _).alloc (Nat.le_refl _) _
          have Hbits0:=lhd hbits0
          have HbWl:=lhd hbWl
          have HbS:=lhd hbS
          have Hrows:=lhd hrows
          have Hnils:=lhd hnils
          have Hbw2:=lhd hbw
          have HWl:=lhd hWl
          have HgB:=lhd hgB
          have Hm:=lhd hm
          clear hbits0 hbWl hbS hrows hnils hbw hWl hbl0 hm
          go_wp2_with fail
          rw [HWl.out]
          obtain ⟨i0,hi0,hz0,hz1,hz2⟩:=info_parts bool_info
          have hd9:decide ((lv:Int) < 9)=true:=decide_eq_true (by omega)
          rw [hd9]
          go_loopw [37] (fun i wr2=>∃(j:Nat) (T:Nat→Value),j≤k∧i=.int .i64 j∧Bits wr2 Wv.heap.size gB m T (fun p=>bitsOf (L.take j) lv p)∧Below Wv.heap.size Wv wr2∧Wl.heap.size≤wr2.heap.size) (fun i _=>k -(intOf i).toNat)
          case atStart=>exact ⟨0,_,by omega,rfl,by rw [List.take_zero];exact Hbits0.out,HbWl.out,Nat.le_refl _⟩
          case round=>
           obtain ⟨j,T,hj,rfl,hbits,hb2,hs2⟩:=hrel
           have hsz2:=hb2.size
           by_cases hjk:j < k
           · have hjl:j < L.length:=by rw [Hll.out];exact hjk
             obtain ⟨s,hs⟩:∃s,L[j]?=some s:=⟨L[j],List.getElem?_eq_getElem hjl⟩
             have hb3:Below w.heap.size w wr:=Hbw2.out.trans (hb2.mono Hbw2.out.size)
             obtain ⟨b0,off,u,rfl,hbl,hu,hc⟩:=((Hr.out.mono HB.out).below hb3).get hjk
             rw [List.getElem?_map,hs] at hu
             simp at hu
             subst hu
             have hs257:s < 257:=HL.out s (List.mem_of_getElem? hs)
             have htk:L.take (j+1)=L.take j++ [s]:=by rw [List.take_add_one,hs];rfl
             have htl:(L.take j).length≤128:=by rw [List.length_take];omega
             unfold sv at hc
             have Hbits:=lhd hbits
             have HTK:=lhd htk
             have Hb2:=lhd hb2
             have hbW2:=hb3
             clear hs hbits htk hb2 hb3
             go_wp2_with fail
             refine (SymPath_any s lv _ hs257 (by omega)).mono ?_
             rintro e w1 ⟨rfl,hb4⟩
             obtain ⟨p,hp⟩:∃p,pathN s lv=p:=⟨_,rfl⟩
             rw [hp]
             have hpm:p < m:=by rw [←Hm.out,←hp];exact path_lt s lv hs257 (by omega)
             have hpI:(p:Int) < (m:Int):=by omega
             have hbits1:=Hbits.out.below hb4
             obtain ⟨xs,hxs⟩:∃xs,bitsOf (L.take j) lv p=xs:=⟨_,rfl⟩
             obtain ⟨q,hq⟩:∃q,xs.length=q:=⟨_,rfl⟩
             have hq128:q≤128:=by
              rw [←hq,←hxs,bits_len]
              exact Nat.le_trans List.countP_le_length htl
             have hown:=hbits1.own p hpm
             simp only [hxs,hq] at hown
             obtain ⟨A9,c9,hTp,hqc,_⟩:=own_shape hown
             have hTlt:=hown.lt
             rw [hTp] at hown hTlt
             have ownB:Wv.heap.size≤w1.heap.size:=Nat.le_trans hsz2 hb4.size
             have ow16:(Value.slice A9 q c9).ownBlock≠some gB:=fun e=>own_bk_ne hown hbits1.blk (by decide) e.symm
             have hbk1:=hbits1.blk
             have hcp:w1.cell? ⟨gB,p,none⟩=some (.slice A9 q c9):=by
              rw [←hTp]
              exact (hbk1.cell p).trans (rowC_get _ _ _ hpm)
             have hgBlt:=hbk1.lt
             obtain ⟨b,hbb⟩:∃b,bitB s lv=b:=⟨_,rfl⟩
             have Hbb:=lhd hbb
             have Hown:=lhd hown
             have Hbk1:=lhd hbk1
             have Hbits1:=lhd hbits1
             have Hp:=lhd hp
             have Hxs:=lhd hxs
             have Hq:=lhd hq
             have HTp:=lhd hTp
             have Hcp:=lhd hcp
             have Hb4:=lhd hb4
             clear hbb hown hbk1 hbits1 hp hxs hq hTp hcp hb4
             go_wp2_with fail
             refine wp_region_any (by kernel_rfl) ?_
             refine wpAny_keep_tail 12 [44,45,46,47,48,49,50,51,52,53,54,55] (fun b=>(Value.slice A9 q c9).ownBlock=some b) 10 [10] (fun w2=>w2.ownsRow Wv.heap.size 4 1 (.slice A9 q c9) q (xs.map Value.bool)) (fun v w2=>w2.ownsRow Wv.heap.size 4 1 v (q+1) (xs.map Value.bool++ [.bool b])∧(v.ownBlock=(Value.slice A9 q c9).ownBlock∨∃g,v.ownBlock=some g∧w1.heap.size≤g)) [is (.slice (some ⟨gB,0,none⟩) m m),is (.int .i64 (p:Int)),is (.slice (some ⟨gB,0,none⟩) m m),is (.int .i64 (p:Int)),is (.pointer (some ⟨gB,p,none⟩)),is (.slice A9 q c9),is (.int .i64 (s:Int)),is (.int .i64 (lv:Int)),is (.bool b),newBk (fun b=>(Value.slice A9 q c9).ownBlock=some b) 4 #[.bool b] fun g=>.slice (some ⟨g,0,none⟩) 1 1,anyV,is (.pointer (some ⟨gB,p,none⟩))] _ _ rfl (by decide) (by kernel_rfl) (by kernel_rfl) (by kernel_rfl) (Hown.out) (fun w2 w3 h _ hg=>own_below h hg) (fun _ _ _ ⟨h1,h2⟩ k=>⟨own_below h1 k,h2⟩) (by repeat' (first | exact stbk_is _ _ | exact stbk_any _ | exact stbk_newBk _ _ _ _ |(refine List.forall_mem_cons.2 ⟨?_,?_⟩)|(intro p hp;cases hp))) ?_ ?_
             · refine steps_of_n ?_
               refine steps_cons (step_on3 rfl rfl fun ev _ _ _ _ _ hold _ _ _ _ hK=>?_) ?_
               · have e8:ev (.tmp 8)=.slice (some ⟨gB,0,none⟩) m m:=hold 8 (by kernel_rfl)
                 go_simp
                 exact kq hK rfl
               refine steps_cons (step_on3 rfl rfl fun ev _ _ _ _ _ hold _ _ _ _ hK=>?_) ?_
               · have e11:ev (.tmp 11)=.int .i64 (p:Int):=hold 11 (by kernel_rfl)
                 go_simp
                 exact kq hK rfl
               refine steps_cons (step_on3 rfl rfl fun ev _ _ _ _ _ hold _ _ _ _ hK=>?_) ?_
               · have e8:ev (.tmp 8)=.slice (some ⟨gB,0,none⟩) m m:=hold 8 (by kernel_rfl)
                 go_simp
                 exact kq hK rfl
               refine steps_cons (step_on3 rfl rfl fun ev _ _ _ _ _ hold _ _ _ _ hK=>?_) ?_
               · have e11:ev (.tmp 11)=.int .i64 (p:Int):=hold 11 (by kernel_rfl)
                 go_simp
                 exact kq hK rfl
               refine steps_cons (step_on3 rfl rfl fun _ _ _ _ _ _ _ hval _ _ _ hK=>?_) ?_
               · have e46:_=_:=hval 2 46 (by kernel_rfl) rfl
                 have e47:_=_:=hval 3 47 (by kernel_rfl) rfl
                 go_simp
                 exact kq hK rfl
               refine steps_cons (step_on3 rfl rfl fun _ w5 hS _ _ _ _ hval _ _ _ hK=>?_) ?_
               · replace hS:Keep (fun b=>(Value.slice A9 q c9).ownBlock=some b) w1 w5:=⟨hS.os,hS.tape,hS.output,hS.size,hS.block⟩
                 have e48:_=_:=hval 4 48 (by kernel_rfl) rfl
                 have c49:w5.cell? ⟨gB,p,none⟩=some (.slice A9 q c9):=(hS.cell (p:=⟨gB,p,none⟩) hgBlt ow16).trans Hcp.out
                 go_simp
                 exact kq hK rfl
               refine steps_cons (step_on3 rfl rfl fun ev _ _ _ _ _ hold _ _ _ _ hK=>?_) ?_
               · have e10:ev (.tmp 10)=.int .i64 (s:Int):=hold 10 (by kernel_rfl)
                 go_simp
                 exact kq hK rfl
               refine steps_cons (step_on3 rfl rfl fun ev _ _ _ _ _ hold _ _ _ _ hK=>?_) ?_
               · have e7:ev (.tmp 7)=.int .i64 (lv:Int):=hold 7 (by kernel_rfl)
                 go_simp
                 exact kq hK rfl
               refine steps_cons (step_on3 rfl rfl fun _ w5 _ _ _ _ _ hval _ _ _ hK=>?_) ?_
               · have e50:_=_:=hval 6 50 (by kernel_rfl) rfl
                 have e51:_=_:=hval 7 51 (by kernel_rfl) rfl
                 go_simp
                 refine (SymBit_any s lv w5 hs257 hl9).mono ?_
                 rintro e w8 ⟨rfl,hb8⟩
                 rw [Hbb.out]
                 exact hK _ _ (kstep_grow hb8) rfl
               refine steps_cons (step_on3 rfl rfl fun _ w5 hS _ _ _ _ hval _ _ _ hK=>?_) ?_
               · replace hS:Keep (fun b=>(Value.slice A9 q c9).ownBlock=some b) w1 w5:=⟨hS.os,hS.tape,hS.output,hS.size,hS.block⟩
                 have e52:_=_:=hval 8 52 (by kernel_rfl) rfl
                 go_simp
                 exact hK _ _ (kstep_grow ((Below.refl _ _).alloc (Nat.le_refl _) _)) ⟨_,rfl,Bk.new _ _ _,fun h=>by have:=(hTlt _ h).2;have:=hS.size;omega⟩
               refine steps_cons (step_on3 rfl rfl fun ev w5 hS hU _ _ _ hval _ _ ha hK=>?_) ?_
               · replace hS:Keep (fun b=>(Value.slice A9 q c9).ownBlock=some b) w1 w5:=⟨hS.os,hS.tape,hS.output,hS.size,hS.block⟩
                 have hpre:=hU rfl
                 have e49:_=_:=hval 5 49 (by kernel_rfl) rfl
                 have p53:(newBk (fun b=>(Value.slice A9 q c9).ownBlock=some b) 4 #[.bool b] fun g=>.slice (some ⟨g,0,none⟩) 1 1) (ev (.tmp 53)) w5:=hval 9 53 (by kernel_rfl) rfl
                 obtain ⟨g53,e53,hb53,hn53⟩:=p53
                 subst ha
                 have hw5:Wv.heap.size≤w5.heap.size:=Nat.le_trans ownB hS.size
                 have hws5:=hS.size
                 refine wp_append_rd w5 (.tmp 49) (.tmp 53) _ rfl Wv.heap.size 4 i0 (.bool false) 1 1 Tryz.underlying209 hi0 hz0 hz1 hz2 rfl (by decide) (.slice A9 q c9) q (xs.map Value.bool) e49 hpre w5.heap.size (some ⟨g53,0,none⟩) 1 1 [.bool b] e53 (rd_one hb53) (by simp [Value.oneCell']) (by unfold maxLen;omega) (by omega) hw5 ?_
                 intro v6 w6 hown6 hg6 hat6
                 refine hK _ _ (kstep_keep ⟨hg6.os,hg6.tape,hg6.output,hg6.size,fun k hk hn=>hg6.block k hk (fun e=>hn e.symm)⟩) ⟨hown6,?_⟩
                 rcases hat6 with h6 | h6
                 · exact .inl h6
                 · exact .inr ⟨_,h6,hws5⟩
               refine steps_cons (step_on3 rfl rfl fun _ _ _ _ _ _ _ hval _ _ _ hK=>?_) ?_
               · have e44:_=_:=hval 0 44 (by kernel_rfl) rfl
                 have e45:_=_:=hval 1 45 (by kernel_rfl) rfl
                 go_simp
                 exact kq hK rfl
               exact steps_nil
             · intro ev w6 f hS hval
               replace hS:Keep (fun b=>(Value.slice A9 q c9).ownBlock=some b) w1 w6:=⟨hS.os,hS.tape,hS.output,hS.size,hS.block⟩
               have p54:(fun v w2=>w2.ownsRow Wv.heap.size 4 1 v (q+1) (xs.map Value.bool++ [.bool b])∧(v.ownBlock=(Value.slice A9 q c9).ownBlock∨∃g,v.ownBlock=some g∧w1.heap.size≤g)) (ev (.tmp 54)) w6:=hval 10 54 (by decide) rfl
               have e55:ev (.tmp 55)=.pointer (some ⟨gB,p,none⟩):=hval 11 55 (by decide) rfl
               simp only [putsOf,List.foldl_cons,List.foldl_nil,Act.put,List.setIfInBounds_toArray,List.set_cons_zero,List.set_cons_succ]
               rw [e55]
               clear hval
               obtain ⟨hown6,hat6⟩:=p54
               have hpush:=Bits.push (v:=ev (.tmp 54)) (b:=b) Hbits1.out hpm (by rw [HTp.out];exact hS) (by simp only [Hxs.out,Hq.out];exact hown6) (by rw [HTp.out];exact hat6)
               obtain ⟨A8,c8,e54,_,_⟩:=own_shape hown6
               rw [e54] at hpush⊢
               have hb6:=hS.bk Hbk1.out ow16
               have c55:w6.cell? ⟨gB,p,none⟩=some (.slice A9 q c9):=(hS.cell (p:=⟨gB,p,none⟩) hgBlt ow16).trans Hcp.out
               have f55:=hb6.frozen p
               have Hpush:=lhd hpush
               have hgB6:=hb6.lt
               clear hpush hb6 hown6 hat6
               change wpAny Tryz.prog Region.Mode.any _ _ (1+f) (firstN 12 13) _ w6
               rw [Nat.add_comm 1 f]
               refine wpAny_one (f:=f) (i:=12) (by kernel_rfl) ?_
               refine wpOp_run rfl rfl ?_
               generalize hK:wpAny Tryz.prog _ _ _ f _=K5
               go_simp
               subst hK
               refine wpAny_all (by kernel_rfl) ?_
               have hb7:Below Wv.heap.size Wv (w6.setCell ⟨gB,p,none⟩ (.slice A8 (q+1) c8)):=
                  ((Hb2.out.trans (Hb4.out.mono hsz2)).trans (hS.to_below ownB (fun b hb h=>by have:=(hTlt _ h).1;omega))).setCell (by rw [HgB.out];exact Nat.le_refl _) _
               have hs7:Wl.heap.size≤(w6.setCell ⟨gB,p,none⟩ (.slice A8 (q+1) c8)).heap.size:=by
                  have h1:=Hb4.out.size
                  have h2:=hS.size
                  have h3:(w6.setCell ⟨gB,p,none⟩ (.slice A8 (q+1) c8)).heap.size=w6.heap.size:=by simp [World.setCell]
                  omega
               have hcong:=Hpush.out.congr (R':=fun p'=>bitsOf (L.take (j+1)) lv p') (fun p' hp'=>by
                  rw [HTK.out,bits_snoc,Hp.out,Hbb.out]
                  by_cases e:p'=p
                  · subst e
                    simp
                  · simp [e])
               have Hcong:=lhd hcong
               clear hcong Hpush
               go_wp2_with fail
               go_roundw
               case rel=>exact ⟨j+1,_,by omega,by go_num,Hcong.out,hb7,hs7⟩
               case measure=>simp [intOf];omega
           · have hjk2:j=k:=by omega
             subst hjk2
             have hLk:L.take j=L:=List.take_of_length_le (by rw [Hll.out];omega)
             rw [hLk] at hbits
             have Hbits:=lhd hbits
             obtain ⟨W3,hW3⟩:∃W3,W3=wr:=⟨_,rfl⟩
             subst hW3
             have hwW3:w.heap.size≤W3.heap.size:=Nat.le_trans Hbw2.out.size hb2.size
             have Hb2:=lhd hb2
             clear hbits hb2
             obtain ⟨i2,gi2,gz0,gz1,gz2⟩:=info_parts shelf_info
             go_wp2_with fail
             go_loopw [59] (fun i wr4=>∃(p:Nat) (v:Value),p≤m∧i=.int .i64 p∧Bits wr4 Wv.heap.size gB m T (fun p=>bitsOf L lv p)∧Keep (fun b=>b=gv) Wv wr4∧W3.heap.size≤wr4.heap.size∧Bk wr4 gv 174 (wcells (fun i=>if i=lv then v else S i) (j:Int) 0)∧∃own4:Nat→Nat,(∀b,b < Wv.heap.size→own4 b=own0 b)∧(∀b,own4 b≠0→w.heap.size≤b∧b < wr4.heap.size)∧ShelfE wr4 own4 W3.heap.size v L lv p) (fun i _=>m -(intOf i).toNat)
             case atStart=>
              refine ⟨0,.slice none 0 0,by omega,rfl,Hbits.out,(Keep.of_below Hb2.out),Nat.le_refl _,?_,own0,fun _ _=>rfl,fun b hb=>⟨(Hrows.out.bnd b hb).1,Nat.lt_of_lt_of_le (Hrows.out.bnd b hb).2 Hb2.out.size⟩,(fun _=>0),World.ownsRow_nil _ _ _ _,fun b hb=>(by cases hb),fun p hp=>absurd hp (by omega)⟩
              have hSe:(fun i=>if i=lv then Value.slice none 0 0 else S i)=S:=by
                  funext i
                  by_cases e:i=lv
                  · rw [if_pos e,e,Hnils.out lv (Nat.le_refl _)]
                  · rw [if_neg e]
              rw [hSe]
              exact HbS.out.below Hb2.out HbS.out.lt
             case round=>
              obtain ⟨p,v,hp,rfl,hbits4,hk4,hs4,hb4,own4,ho4,hbn4,hrow4⟩:=hrel
              by_cases hpm:p < m
              · have hown:=hbits4.own p hpm
                obtain ⟨xs,hxs⟩:∃xs,bitsOf L lv p=xs:=⟨_,rfl⟩
                obtain ⟨q,hq⟩:∃q,xs.length=q:=⟨_,rfl⟩
                have hq128:q≤128:=by
                    rw [←hq,←hxs,bits_len]
                    exact Nat.le_trans List.countP_le_length (by rw [Hll.out];exact hm)
                simp only [hxs,hq] at hown
                obtain ⟨A9,c9,hTp,hqc,_⟩:=own_shape hown
                rw [hTp] at hown
                have hcp:wr.cell? ⟨gB,p,none⟩=some (.slice A9 q c9):=by
                    rw [←hTp]
                    exact (hbits4.blk.cell p).trans (rowC_get _ _ _ hpm)
                obtain ⟨G,hownS,hv2,htr⟩:=hrow4
                obtain ⟨As,cs,hv,hpc,_⟩:=own_shape hownS
                subst hv
                have hSlt:=hownS.lt
                have hgvF:(Value.slice As p cs).ownBlock≠some gv:=fun e=>own_bk_ne hownS hb4 (by decide) e.symm
                have hdis:∀t,177≠t→∀b cs',Bk wr b t cs'→(Value.slice As p cs).ownBlock≠some b:=fun t ht b cs' hb e=>own_bk_ne hownS hb ht e.symm
                have hfty:∀b,(Value.slice As p cs).ownBlock=some b→∃t cs',Bk wr b t cs'∧(t=174∨t=177):=fun b hb=>by
                    obtain ⟨cs',h⟩:=own_ty hownS hb
                    exact ⟨_,cs',h,.inr rfl⟩
                have c71:wr.cell? ⟨gv,lv,none⟩=some (.slice As p cs):=(hb4.cell lv).trans (by rw [wcells_at _ _ _ _ hl9,if_pos rfl])
                have hgvlt:=hb4.lt
                have hgBlt:=hbits4.blk.lt
                have hm512:p+1≤512:=by omega
                have hpI:(p:Int) < (m:Int):=by omega
                have hsWv:=Hb2.out.size
                have Hown:=lhd hown
                have HownS:=lhd hownS
                have Htr:=lhd htr
                have Hv2:=lhd hv2
                have Ho4:=lhd ho4
                have Hbn4:=lhd hbn4
                have Hdis:=lhd hdis
                have Hfty:=lhd hfty
                have C71:=lhd c71
                have Hb4:=lhd hb4
                have Hk4:=lhd hk4
                have Hbits4:=lhd hbits4
                have Hxs:=lhd hxs
                clear hown hownS htr hv2 ho4 hbn4 hdis hfty c71 hb4 hk4 hbits4 hxs hTp hq
                go_wp2_with fail
                refine wp_region_any (by kernel_rfl) ?_
                refine wpAny_keep_tail 18 [64,65,66,67,68,69,70,71,72,73,74,75,76,77,78,79,80,81] (fun b=>(Value.slice As p cs).ownBlock=some b) 14 [14] (fun w2=>w2.ownsRow W3.heap.size 177 3 (.slice As p cs) p (shelfL G lv p)) (fun v w2=>∃gt,TreeB w2 wr.heap.size gt xs∧w2.ownsRow W3.heap.size 177 3 v (p+1) (shelfL G lv p++ [.pointer (some ⟨gt,0,none⟩),.int .i64 (lv:Int),.int .i64 (p:Int)])∧(v.ownBlock=(Value.slice As p cs).ownBlock∨∃g,v.ownBlock=some g∧wr.heap.size≤g)) [is (.pointer (some ⟨gv,0,none⟩)),is (.int .i64 (lv:Int)),is (.pointer (some ⟨gv,0,none⟩)),is (.int .i64 (lv:Int)),is (.pointer (some ⟨gv,0,none⟩)),is (.pointer (some ⟨gv,0,none⟩)),is (.pointer (some ⟨gv,lv,none⟩)),is (.slice As p cs),is (.slice A9 q c9),fun v w2=>∃gt,v=.pointer (some ⟨gt,0,none⟩)∧TreeB w2 wr.heap.size gt xs,is (.int .i64 (lv:Int)),is (.int .i64 (p:Int)),fun v w2=>∃gt,v=.agg #[.pointer (some ⟨gt,0,none⟩),.int .i64 (lv:Int),.int .i64 (p:Int)]∧TreeB w2 wr.heap.size gt xs,fun v w2=>∃g gt,v=.slice (some ⟨g,0,none⟩) 1 1∧Bk w2 g 177 #[.pointer (some ⟨gt,0,none⟩),.int .i64 (lv:Int),.int .i64 (p:Int)]∧(Value.slice As p cs).ownBlock≠some g∧TreeB w2 wr.heap.size gt xs,anyV,is (.pointer (some ⟨gv,0,none⟩)),is (.pointer (some ⟨gv,0,none⟩)),is (.pointer (some ⟨gv,lv,none⟩))] _ _ rfl (by decide) (by kernel_rfl) (by kernel_rfl) (by kernel_rfl) (HownS.out) (fun w2 w3 h _ hg=>own_below h hg) (fun _ _ _ ⟨gt,h1,h2,h3⟩ k=>⟨gt,h1.below k,own_below h2 k,h3⟩) (by repeat' (first | exact stbk_is _ _ | exact stbk_any _ | exact fun _ _ _ ⟨gt,h1,h2⟩ k=>⟨gt,h1,h2.keep k (fun b hb=>(hSlt b hb).2)⟩| exact fun _ _ _ ⟨g,gt,h1,h2,h3,h4⟩ k=>⟨g,gt,h1,k.bk h2 h3,h3,h4.keep k (fun b hb=>(hSlt b hb).2)⟩|(refine List.forall_mem_cons.2 ⟨?_,?_⟩)|(intro p hp;cases hp))) ?_ ?_
                · refine steps_of_n ?_
                  refine steps_cons (step_on3 rfl rfl fun ev _ _ _ _ _ hold _ _ _ _ hK=>?_) ?_
                  · have e4:ev (.tmp 4)=.pointer (some ⟨gv,0,none⟩):=hold 4 (by kernel_rfl)
                    go_simp
                    exact kq hK rfl
                  refine steps_cons (step_on3 rfl rfl fun ev _ _ _ _ _ hold _ _ _ _ hK=>?_) ?_
                  · have e7:ev (.tmp 7)=.int .i64 (lv:Int):=hold 7 (by kernel_rfl)
                    go_simp
                    exact kq hK rfl
                  refine steps_cons (step_on3 rfl rfl fun ev _ _ _ _ _ hold _ _ _ _ hK=>?_) ?_
                  · have e4:ev (.tmp 4)=.pointer (some ⟨gv,0,none⟩):=hold 4 (by kernel_rfl)
                    go_simp
                    exact kq hK rfl
                  refine steps_cons (step_on3 rfl rfl fun ev _ _ _ _ _ hold _ _ _ _ hK=>?_) ?_
                  · have e7:ev (.tmp 7)=.int .i64 (lv:Int):=hold 7 (by kernel_rfl)
                    go_simp
                    exact kq hK rfl
                  refine steps_cons (step_on3 rfl rfl fun _ _ _ _ _ _ _ hval _ _ _ hK=>?_) ?_
                  · have e66:_=_:=hval 2 66 (by kernel_rfl) rfl
                    go_simp
                    exact kq hK rfl
                  refine steps_cons (step_on3 rfl rfl fun _ _ _ _ _ _ _ hval _ _ _ hK=>?_) ?_
                  · have e68:_=_:=hval 4 68 (by kernel_rfl) rfl
                    go_simp
                    exact kq hK rfl
                  refine steps_cons (step_on3 rfl rfl fun _ _ _ _ _ _ _ hval _ _ _ hK=>?_) ?_
                  · have e69:_=_:=hval 5 69 (by kernel_rfl) rfl
                    have e67:_=_:=hval 3 67 (by kernel_rfl) rfl
                    go_simp
                    exact kq hK rfl
                  refine steps_cons (step_on3 rfl rfl fun _ w5 hS _ _ _ _ hval _ _ _ hK=>?_) ?_
                  · replace hS:Keep (fun b=>(Value.slice As p cs).ownBlock=some b) wr w5:=⟨hS.os,hS.tape,hS.output,hS.size,hS.block⟩
                    have e70:_=_:=hval 6 70 (by kernel_rfl) rfl
                    have c71:w5.cell? ⟨gv,lv,none⟩=some (.slice As p cs):=(hS.cell (p:=⟨gv,lv,none⟩) hgvlt hgvF).trans C71.out
                    go_simp
                    exact kq hK rfl
                  refine steps_cons (step_on3 rfl rfl fun ev _ _ _ _ _ hold _ _ _ _ hK=>?_) ?_
                  · have e13:ev (.tmp 13)=.slice A9 q c9:=hold 13 (by kernel_rfl)
                    go_simp
                    exact kq hK rfl
                  refine steps_cons (step_on3 rfl rfl fun _ w5 hS _ _ _ _ hval _ _ _ hK=>?_) ?_
                  · replace hS:Keep (fun b=>(Value.slice As p cs).ownBlock=some b) wr w5:=⟨hS.os,hS.tape,hS.output,hS.size,hS.block⟩
                    have e72:_=_:=hval 8 72 (by kernel_rfl) rfl
                    go_simp
                    have own5:=own_same Hown.out (fun b cs' hb hbk=>hS.bk hbk (Hdis.out _ (by decide) b cs' hbk))
                    refine (TreeNew_any A9 q c9 w5.heap.size xs w5 (Rd.of_own own5) (Nat.le_refl _) hq128 hqc).mono ?_
                    rintro e w8 ⟨gt,rfl,htb,hb8⟩
                    exact hK _ _ (kstep_grow hb8) ⟨gt,rfl,htb.mono hS.size⟩
                  refine steps_cons (step_on3 rfl rfl fun ev _ _ _ _ _ hold _ _ _ _ hK=>?_) ?_
                  · have e7:ev (.tmp 7)=.int .i64 (lv:Int):=hold 7 (by kernel_rfl)
                    go_simp
                    exact kq hK rfl
                  refine steps_cons (step_on3 rfl rfl fun ev _ _ _ _ _ hold _ _ _ _ hK=>?_) ?_
                  · have e12:ev (.tmp 12)=.int .i64 (p:Int):=hold 12 (by kernel_rfl)
                    go_simp
                    exact kq hK rfl
                  refine steps_cons (step_on3 rfl rfl fun ev w5 _ _ _ _ _ hval _ _ _ hK=>?_) ?_
                  · have p73:(fun v w2=>∃gt,v=.pointer (some ⟨gt,0,none⟩)∧TreeB w2 wr.heap.size gt xs) (ev (.tmp 73)) w5:=hval 9 73 (by kernel_rfl) rfl
                    have e74:_=_:=hval 10 74 (by kernel_rfl) rfl
                    have e75:_=_:=hval 11 75 (by kernel_rfl) rfl
                    obtain ⟨gt,e73,ht73⟩:=p73
                    go_simp
                    exact hK _ _ (kstep_grow (Below.refl _ _)) ⟨gt,rfl,ht73⟩
                  refine steps_cons (step_on3 rfl rfl fun ev w5 hS _ _ _ _ hval _ _ _ hK=>?_) ?_
                  · replace hS:Keep (fun b=>(Value.slice As p cs).ownBlock=some b) wr w5:=⟨hS.os,hS.tape,hS.output,hS.size,hS.block⟩
                    have p76:(fun v w2=>∃gt,v=.agg #[.pointer (some ⟨gt,0,none⟩),.int .i64 (lv:Int),.int .i64 (p:Int)]∧TreeB w2 wr.heap.size gt xs) (ev (.tmp 76)) w5:=hval 12 76 (by kernel_rfl) rfl
                    obtain ⟨gt,e76,ht76⟩:=p76
                    go_simp
                    exact hK _ _ (kstep_grow ((Below.refl _ _).alloc (Nat.le_refl _) _)) ⟨_,gt,rfl,Bk.new _ _ _,fun h=>by have:=(hSlt _ h).2;have:=hS.size;omega,ht76.below ((Below.refl _ _).alloc (Nat.le_refl _) _)⟩
                  refine steps_cons (step_on3 rfl rfl fun ev w5 hS hU _ _ _ hval _ _ ha hK=>?_) ?_
                  · replace hS:Keep (fun b=>(Value.slice As p cs).ownBlock=some b) wr w5:=⟨hS.os,hS.tape,hS.output,hS.size,hS.block⟩
                    have hpre:=hU rfl
                    have e71:_=_:=hval 7 71 (by kernel_rfl) rfl
                    have p77:(fun v w2=>∃g gt,v=.slice (some ⟨g,0,none⟩) 1 1∧Bk w2 g 177 #[.pointer (some ⟨gt,0,none⟩),.int .i64 (lv:Int),.int .i64 (p:Int)]∧(Value.slice As p cs).ownBlock≠some g∧TreeB w2 wr.heap.size gt xs) (ev (.tmp 77)) w5:=hval 13 77 (by kernel_rfl) rfl
                    obtain ⟨g77,gt,e77,hb77,hn77,ht77⟩:=p77
                    subst ha
                    have hw5:W3.heap.size≤w5.heap.size:=Nat.le_trans hs4 hS.size
                    refine wp_append_rd w5 (.tmp 71) (.tmp 77) _ rfl W3.heap.size 177 i2 _ 3 24 Tryz.underlying171 gi2 gz0 gz1 gz2 rfl (by decide) (.slice As p cs) p (shelfL G lv p) e71 hpre w5.heap.size (some ⟨g77,0,none⟩) 1 1 _ e77 (rd_eight hb77 rfl) (by simp [Value.oneCell']) (by unfold maxLen;omega) (by omega) hw5 ?_
                    intro v6 w6 hown6 hg6 hat6
                    have kF:Keep (fun b=>(Value.slice As p cs).ownBlock=some b) w5 w6:=⟨hg6.os,hg6.tape,hg6.output,hg6.size,fun k hk hn=>hg6.block k hk (fun e=>hn e.symm)⟩
                    exact hK _ _ (kstep_keep kF) ⟨gt,ht77.keep kF (fun b hb=>(hSlt b hb).2),hown6,hat6.elim .inl fun e=>.inr ⟨_,e,hS.size⟩⟩
                  refine steps_cons (step_on3 rfl rfl fun _ _ _ _ _ _ _ hval _ _ _ hK=>?_) ?_
                  · have e64:_=_:=hval 0 64 (by kernel_rfl) rfl
                    go_simp
                    exact kq hK rfl
                  refine steps_cons (step_on3 rfl rfl fun _ _ _ _ _ _ _ hval _ _ _ hK=>?_) ?_
                  · have e79:_=_:=hval 15 79 (by kernel_rfl) rfl
                    go_simp
                    exact kq hK rfl
                  refine steps_cons (step_on3 rfl rfl fun _ _ _ _ _ _ _ hval _ _ _ hK=>?_) ?_
                  · have e80:_=_:=hval 16 80 (by kernel_rfl) rfl
                    have e65:_=_:=hval 1 65 (by kernel_rfl) rfl
                    go_simp
                    exact kq hK rfl
                  exact steps_nil
                · intro ev w6 f hS hval
                  replace hS:Keep (fun b=>(Value.slice As p cs).ownBlock=some b) wr w6:=⟨hS.os,hS.tape,hS.output,hS.size,hS.block⟩
                  have p78:(fun v w2=>∃gt,TreeB w2 wr.heap.size gt xs∧w2.ownsRow W3.heap.size 177 3 v (p+1) (shelfL G lv p++ [.pointer (some ⟨gt,0,none⟩),.int .i64 (lv:Int),.int .i64 (p:Int)])∧(v.ownBlock=(Value.slice As p cs).ownBlock∨∃g,v.ownBlock=some g∧wr.heap.size≤g)) (ev (.tmp 78)) w6:=hval 14 78 (by decide) rfl
                  have e81:ev (.tmp 81)=.pointer (some ⟨gv,lv,none⟩):=hval 17 81 (by decide) rfl
                  simp only [putsOf,List.foldl_cons,List.foldl_nil,Act.put,List.setIfInBounds_toArray,List.set_cons_zero,List.set_cons_succ]
                  rw [e81]
                  clear hval
                  obtain ⟨gt,ht6,hown6,hat6⟩:=p78
                  obtain ⟨A8,c8,e78,_,_⟩:=own_shape hown6
                  rw [e78] at hown6 hat6⊢
                  have Hat6:=lhd hat6
                  clear hat6
                  have hb6:=hS.bk Hb4.out hgvF
                  have c81:w6.cell? ⟨gv,lv,none⟩=some (.slice As p cs):=(hS.cell (p:=⟨gv,lv,none⟩) hgvlt hgvF).trans C71.out
                  have f81:=hb6.frozen lv
                  have Hb6:=lhd hb6
                  have Hown6:=lhd hown6
                  have Ht6:=lhd ht6
                  have hgv6:=hb6.lt
                  clear hb6 hown6 ht6
                  change wpAny Tryz.prog Region.Mode.any _ _ (1+f) (firstN 18 19) _ w6
                  rw [Nat.add_comm 1 f]
                  refine wpAny_one (f:=f) (i:=18) (by kernel_rfl) ?_
                  refine wpOp_run rfl rfl ?_
                  generalize hK:wpAny Tryz.prog _ _ _ f _=K5
                  go_simp
                  subst hK
                  refine wpAny_all (by kernel_rfl) ?_
                  have kset:Keep (fun b=>b=gv) w6 (w6.setCell ⟨gv,lv,none⟩ (.slice A8 (p+1) c8)):=Keep.setCell (F:=fun b=>b=gv) (Keep.refl _ _) (p:=⟨gv,lv,none⟩) (.inl rfl) _
                  have hset:∀t,174≠t→∀b cs',Bk w6 b t cs'→Bk (w6.setCell ⟨gv,lv,none⟩ (.slice A8 (p+1) c8)) b t cs':=fun t ht b cs' hb=>hb.far (fun e=>Bk.ne Hb6.out hb ht e.symm) _
                  have kall:Keep (fun b=>b=gv) Wv (w6.setCell ⟨gv,lv,none⟩ (.slice A8 (p+1) c8)):=(Hk4.out.trans' hS (fun b hb f=>by have:=(hSlt b f).1;omega)).trans kset
                  have bits7:=Hbits4.out.same (w':=w6.setCell ⟨gv,lv,none⟩ (.slice A8 (p+1) c8)) (fun b cs' hb=>hset _ (by decide) _ _ (hS.bk hb (Hdis.out _ (by decide) b cs' hb))) (fun b cs' hb=>hset _ (by decide) _ _ (hS.bk hb (Hdis.out _ (by decide) b cs' hb)))
                  have bk7:=Hb6.out.set lv (.slice A8 (p+1) c8)
                  rw [wcells_set _ _ _ lv hl9] at bk7
                  have eqS:(fun j_1=>if j_1=lv then Value.slice A8 (p+1) c8 else if j_1=lv then Value.slice As p cs else S j_1)=(fun i=>if i=lv then Value.slice A8 (p+1) c8 else S i):=by
                     funext i
                     by_cases e:i=lv
                     · rw [if_pos e,if_pos e]
                     · rw [if_neg e,if_neg e,if_neg e]
                  rw [eqS] at bk7
                  have kall2:Keep (fun b=>(Value.slice As p cs).ownBlock=some b∨b=gv) wr (w6.setCell ⟨gv,lv,none⟩ (.slice A8 (p+1) c8)):=(hS.mono fun b _ f=>.inl f).trans (kset.mono fun b _ f=>.inr f)
                  have hsz67:w6.heap.size=(w6.setCell ⟨gv,lv,none⟩ (.slice A8 (p+1) c8)).heap.size:=by simp [World.setCell]
                  have hown7:=own_same (w':=w6.setCell ⟨gv,lv,none⟩ (.slice A8 (p+1) c8)) Hown6.out fun b cs' _ hb=>hset _ (by decide) _ _ hb
                  have row7:ShelfE (w6.setCell ⟨gv,lv,none⟩ (.slice A8 (p+1) c8)) (ownT own4 wr.heap.size (Value.slice A8 (p+1) c8).ownBlock (w6.setCell ⟨gv,lv,none⟩ (.slice A8 (p+1) c8)).heap.size (TC lv p)) W3.heap.size (.slice A8 (p+1) c8) L lv (p+1):=by
                     refine ShelfE.next (H:=fun b=>(Value.slice As p cs).ownBlock=some b∨b=gv) hl9 (by rw [Hm.out];exact hpm) HownS.out Hv2.out Htr.out (fun b hb=>(Hbn4.out b hb).2) kall2 (fun b f=>?_) ?_ hown7 Hat6.out
                     · rcases f with f | f
                       · exact Hfty.out b f
                       · subst f
                         exact ⟨_,_,Hb4.out,.inl rfl⟩
                     · rw [Hxs.out]
                       exact Ht6.out.own.keepT kset fun b e=>⟨_,_,(show b=gv from e)▸ Hb6.out,.inl rfl⟩
                  have old7:∀b,b < Wv.heap.size→ownT own4 wr.heap.size (Value.slice A8 (p+1) c8).ownBlock (w6.setCell ⟨gv,lv,none⟩ (.slice A8 (p+1) c8)).heap.size (TC lv p) b=own0 b:=fun b hb=>by
                     unfold ownT
                     rw [if_pos (by have:=Hb2.out.size;omega)]
                     exact Ho4.out b hb
                  have bnd7:=ownT_bnd (v:=(Value.slice A8 (p+1) c8).ownBlock) (c:=TC lv p) Hbn4.out kall2.size (by omega) (fun b hb=>(hown7.lt b hb).2)
                  have K5:=lhd old7
                  have K6:=lhd bnd7
                  clear old7 bnd7 hown7 kall2 hsz67
                  have size7:W3.heap.size≤(w6.setCell ⟨gv,lv,none⟩ (.slice A8 (p+1) c8)).heap.size:=Nat.le_trans hs4 (Nat.le_trans hS.size kset.size)
                  have K1:=lhd kall
                  have K2:=lhd bits7
                  have K3:=lhd bk7
                  have K4:=lhd row7
                  clear kset hset kall bits7 bk7 row7 eqS
                  go_wp2_with fail
                  go_roundw
                  case rel=>exact ⟨p+1,_,by omega,by go_num,K2.out,K1.out,size7,K3.out,_,K5.out,K6.out,K4.out⟩
                  case measure=>simp [intOf];omega
              · have hpm2:p=m:=by omega
                subst hpm2
                have hWw:Below w.heap.size w wr:=Hbw2.out.trans (hk4.to_below Hbw2.out.size (fun b hb e=>by have:=Hgv.out;omega))
                have hWs:W.heap.size≤wr.heap.size:=Nat.le_trans hWr hk4.size
                have hrows4:RowsE wr own4 w.heap.size gv (fun i=>if i=lv then v else S i) L (lv+1):=by
                    have hgvW:gv < Wv.heap.size:=HbS.out.lt
                    refine ⟨hbn4,by rw [ho4 gv hgvW];exact Hrows.out.gv2,fun i hi=>?_⟩
                    show ShelfE wr own4 w.heap.size (if i=lv then v else S i) L i (2 ^ i)
                    by_cases e:i=lv
                    · subst e
                      rw [if_pos rfl,Hm.out]
                      exact hrow4.mono hwW3 fun _ _ _=>rfl
                    · rw [if_neg e]
                      exact ((Hrows.out.rows i (by omega)).keepW hk4 HbS.out).mono (Nat.le_refl _) fun b _ hne=>ho4 b (Hrows.out.bnd b hne).2
                have hnil4:∀i,lv+1≤i→(if i=lv then v else S i)=.slice none 0 0:=by
                    intro i hi
                    rw [if_neg (by omega)]
                    exact Hnils.out i (by omega)
                have K1:=lhd hWw
                have K2:=lhd hrows4
                have K3:=lhd hnil4
                have K4:=lhd hb4
                clear hWw hrows4 hnil4 hb4 hbits4 hk4 hrow4 ho4 hbn4
                go_wp2_with fail
                go_roundw
                case rel=>exact ⟨lv+1,by omega,by go_num,K1.out,hWs,_,own4,K4.out,K2.out,K3.out⟩
                case measure=>simp [intOf];omega
        · have hl9':lv=9:=by omega
          subst hl9'
          have hfin:WaveE wr w.heap.size own0 gv L:=⟨S,0,by rw [Hll.out];exact hbS,⟨by have:=Hgv.out;omega,hrows.gv2⟩,fun i hi=>hrows.rows i hi,hrows.bnd⟩
          have K1:=lhd hfin
          have K2:=lhd hbw
          clear hfin hbw hbS hrows hnils
          go_wp2_with fail
          go_ret2
          exact ⟨gv,own0,rfl,K1.out,K2.out⟩
end Go.Proofs.YtipaccakmndkgaaGreatDoor
