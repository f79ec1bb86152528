/- The walk of perm's Add (a row behind all others, a place that has none yet). Conditions: at most 2^20 pairs; no number is free. slices.Insert of one number at any place of an own row; slices.Delete of one. Conditions: at most a million numbers. The walks of slices.Grow (of nil) and slices.Concat. Conditions: sizes of at most 2^40. -/
import Derived.Test.YtipaccakmndkgaaGreatPwa19
import Derived.Test.YtipaccakmndkgaaGreatPwa2
import Derived.Test.YtipaccakmndkgaaGreatShi
import Derived.Sort.OwnSortedInts
import Derived.Lib.AppendZeros
import Derived.Lib.LazyBuf
namespace Go.Proofs.YtipaccakmndkgaaGreat
open Go.RowKit
set_option linter.unusedVariables false
set_option linter.unusedSimpArgs false
theorem pair_info:(Tryz.prog.info? 70).map (fun i=>(i.zero,i.size,i.bytes))=some (some (.agg #[.int .i64 0,.int .i64 0]),2,16):=by kernel_rfl
def PF (gp ga:Nat) (vl vo vt:Value) (b:Nat):Prop:=b=gp∨b=ga∨vl.ownBlock=some b∨vo.ownBlock=some b∨vt.ownBlock=some b
theorem pairsL_snoc (C:List (Nat×Nat)) (x:Nat×Nat):pairsL (C++ [x])=pairsL C++pairV x:=by simp [pairsL]
theorem PermAt.below {w w':World} {B gp ga:Nat} {vl vo vt vf:Value} {R P:Nat} {ks:List Nat} {C:List (Nat×Nat)} {tk:List Bool} {fr:List Nat} (h:PermAt w B gp ga vl vo vt vf R P ks C tk fr) (k:Below w.heap.size w w'):PermAt w' B gp ga vl vo vt vf R P ks C tk fr:=
 ⟨h.blk.below k h.blk.lt,own_below h.lrow k,own_below h.orow k,h.ar.below k h.ar.lt,own_below h.trow k,own_below h.frow k,h.apart,h.lt,h.lo⟩
theorem own_keepT {F:Nat→Prop} {w w':World} {B:Nat} {e:TypeId} {sz n:Nat} {v:Value} {xs:List Value} (h:w.ownsRow B e sz v n xs) (k:Keep F w w') (hf:∀b cs,F b→Bk w b e cs→False):w'.ownsRow B e sz v n xs:=
 own_same h fun b cs _ hb=>k.bk hb (fun f=>hf b cs f hb)
theorem own_pair {w:World} {B g cap:Nat} {C:List (Nat×Nat)} {y:Nat×Nat} (h:w.ownsRow B 70 2 (.slice (some ⟨g,0,none⟩) (C.length+1) cap) (C.length+1) (pairsL (C++ [y]))) (x:Nat×Nat):
 ((w.setCell ⟨g,C.length*2,none⟩ (.int .i64 (x.1:Int))).setCell ⟨g,C.length*2+1,none⟩ (.int .i64 (x.2:Int))).ownsRow B 70 2 (.slice (some ⟨g,0,none⟩) (C.length+1) cap) (C.length+1) (pairsL (C++ [x])):=by
 rcases h.2 with ⟨h1,_⟩|⟨g',cap',cur,h1,h2,h3,h4,h5,h6,h7⟩
 · cases h1
 · injection h1 with h8 h9 h10
   injection h8 with h8
   injection h8 with h8 _
   subst h8 h10
   have hb:Bk w g 70 cur:=h3
   have hb2:=(hb.set (C.length*2) (.int .i64 (x.1:Int))).set (C.length*2+1) (.int .i64 (x.2:Int))
   refine ⟨by rw [pairsL_len];simp,.inr ⟨g,cap,_,rfl,h2,hb2,h4,h5,by simpa using h6,?_⟩⟩
   rw [pairsL_snoc] at h7⊢
   have hl:=pairsL_len C
   apply List.ext_getElem?
   intro i
   have hi:=congrArg (fun l=>l[i]?) h7
   simp only [List.getElem?_take,Array.getElem?_toList] at hi
   rw [List.getElem?_take,Array.getElem?_toList,Array.getElem?_setIfInBounds,Array.getElem?_setIfInBounds]
   by_cases c1:i < C.length*2
   · rw [if_pos (by omega)] at hi⊢
     rw [if_neg (by omega),if_neg (by omega),hi,List.getElem?_append_left (by omega),List.getElem?_append_left (by omega)]
   · by_cases c2:i=C.length*2
     · subst c2
       rw [if_pos (by omega),if_neg (by omega),if_pos rfl,if_pos (by omega),List.getElem?_append_right (by omega),hl,Nat.sub_self]
       rfl
     · by_cases c3:i=C.length*2+1
       · subst c3
         rw [if_pos (by omega),if_pos rfl,if_pos (by simp;omega),List.getElem?_append_right (by omega),hl,show C.length*2+1 - C.length*2=1 by omega]
         rfl
       · rw [if_neg (by omega),List.getElem?_eq_none (by simp [pairV];omega)]
set_option maxRecDepth 100000 in
set_option maxHeartbeats 4000000 in
theorem PermAdd_any (B gp ga:Nat) (vl vo vt:Value) (R P:Nat) (ks:List Nat) (C:List (Nat×Nat)) (tk:List Bool) (row pos:Nat) (w:World) (h:PermAt w B gp ga vl vo vt (.slice none 0 0) R P ks C tk []) (hs:ks.Pairwise (fun a b=>rowK C a < rowK C b))
 (hr:∀k∈ks,rowK C k < row) (hp:∀k∈ks,posK C k≠pos) (hR:row < R) (hP:pos < P) (ht:tk.length=C.length) (hC:C.length≤900000) (hk:ks.length≤900000) (hB:B≤w.heap.size):
 Calls Tryz.prog 16 #[.pointer (some ⟨gp,0,none⟩),.int .i64 (row:Int),.int .i64 (pos:Int)] w fun e w'=>e=.returned (.int .i64 0)∧Keep (PF gp ga vl vo vt) w w'∧∃vl' vo' vt',PermAt w' B gp ga vl' vo' vt' (.slice none 0 0) R P (ks++ [C.length]) (C++ [(row,pos)]) (tk++ [true]) []∧(vo'.ownBlock=vo.ownBlock∨∃g,vo'.ownBlock=some g∧w.heap.size≤g)∧(vl'.ownBlock=vl.ownBlock∨∃g,vl'.ownBlock=some g∧w.heap.size≤g)∧(vt'.ownBlock=vt.ownBlock∨∃g,vt'.ownBlock=some g∧w.heap.size≤g):=by
 obtain ⟨i0,hi0,hz0,hz1,hz2⟩:=info_parts pair_info
 have hcnt:ks.countP (fun k=>decide (rowK C k < row))=ks.length:=List.countP_eq_length.2 fun k hk=>by simpa using hr k hk
 have hfnd:decide (∃k∈ks,rowK C k=row)=false:=by
  rw [decide_eq_false_iff_not]
  rintro ⟨k,hk,e⟩
  have:=hr k hk
  omega
 have hhas:firstI (fun k=>decide (posK C k=pos)) ks 0=-1:=firstI_none (fun k hk=>by simpa using hp k hk) 0
 have c3:w.cell? ⟨gp,3,none⟩=some (.int .i64 (R:Int)):=(h.blk.cell 3).trans rfl
 have c4:w.cell? ⟨gp,4,none⟩=some (.int .i64 (P:Int)):=(h.blk.cell 4).trans rfl
 have hat:=PermAt_any B gp ga vl vo vt (.slice none 0 0) R P ks C tk [] row w h hs (by omega)
 rw [hcnt,hfnd] at hat
 have hhs:=fun W hW=>PermHas_any B gp ga vl vo vt (.slice none 0 0) R P ks C tk [] pos W hW (by omega)
 simp only [hhas] at hhs
 obtain ⟨n,hn⟩:∃n,ks.length=n:=⟨_,rfl⟩
 obtain ⟨N,hN⟩:∃n,C.length=n:=⟨_,rfl⟩
 rw [hn] at hat
 have Hhs:=Lib.hid hhs
 have H:=Lib.hid h
 have Hn:=Lib.hid hn
 have HN:=Lib.hid hN
 have Ht:=Lib.hid ht
 have hN9:N≤900000:=by omega
 have hn9:n≤900000:=by omega
 have HB:=Lib.hid hB
 clear hcnt hfnd hhas hhs hs hr hp h hn hN ht hC hk hB
 go_enter Tryz.func16,Tryz.ntmps16
 go_wp2_with fail
 refine hat.mono ?_
 clear hat
 rintro e w1 ⟨rfl,hb1⟩
 have h1:=H.out.below hb1
 have H1:=Lib.hid h1
 have Hb1:=Lib.hid hb1
 clear h1 hb1 c3 c4
 go_wp2_with fail
 refine (Hhs.out w1 H1.out).mono ?_
 rintro e w2 ⟨rfl,hb2⟩
 have h2:=H1.out.below hb2
 have hb12:=Hb1.out.trans (hb2.mono Hb1.out.size)
 have c0:w2.cell? ⟨gp,0,none⟩=some (.pointer (some ⟨ga,0,none⟩)):=(h2.blk.cell 0).trans rfl
 have H2:=Lib.hid h2
 have Hb2:=Lib.hid hb12
 clear h2 hb12 hb2 H1 Hb1 Hhs
 go_wp2_with fail
 obtain ⟨At,ct,hvt,_⟩:=own_shape H2.out.trow
 have htk:tk.length=N:=by rw [Ht.out,HN.out]
 have hT:=TakeMore_any B ga At ct none 0 N tk w2 (by have:=H2.out.ar;rw [hvt,htk] at this;exact this) (by have:=H2.out.trow;rw [hvt,htk] at this;exact this) (by have:=HB.out;have:=Hb2.out.size;omega) (by omega)
 have hvt':vt=.slice At N ct:=by rw [hvt,htk]
 rw [←hvt'] at hT
 refine hT.mono ?_
 clear hT hvt hvt' htk
 rintro e w3 ⟨rfl,hk3,vt',hbk3,hown3,hfr3⟩
 have hgp3:=hk3.bk H2.out.blk (fun f=>by
  rcases f with f | f
  · exact Bk.ne H2.out.blk H2.out.ar (by decide) f
  · exact own_bk_ne H2.out.trow H2.out.blk (by decide) f.symm)
 have hvl3:=own_keepT H2.out.lrow hk3 (fun b cs f hb=>by
  rcases f with f | f
  · subst f;exact Bk.ne hb H2.out.ar (by decide) rfl
  · exact own_bk_ne H2.out.trow hb (by decide) f.symm)
 have hvo3:=own_keepT H2.out.orow hk3 (fun b cs f hb=>by
  rcases f with f | f
  · subst f;exact Bk.ne hb H2.out.ar (by decide) rfl
  · exact own_bk_ne H2.out.trow hb (by decide) f.symm)
 obtain ⟨Al,cl,hvl,_⟩:=own_shape hvl3
 have hvl':vl=.slice Al N cl:=by rw [hvl,HN.out]
 have d1:w3.cell? ⟨gp,1,none⟩=some vl:=(hgp3.cell 1).trans rfl
 have fp:=hgp3.frozen 1
 rw [hvl'] at d1
 have hgp3l:=hgp3.lt
 rw [HN.out] at hvl3
 have hB3:B≤w3.heap.size:=by have:=hk3.size;have:=HB.out;have:=Hb2.out.size;omega
 have Hk3:=Lib.hid hk3
 have Hbk3:=Lib.hid hbk3
 have Hown3:=Lib.hid hown3
 have Hfr3:=Lib.hid hfr3
 have Hgp3:=Lib.hid hgp3
 have Hvl3:=Lib.hid hvl3
 have Hvo3:=Lib.hid hvo3
 have Hvl:=Lib.hid hvl'
 have e1:=(World.cell?_alloc_lt w3 (Obj.cells #[.int .i64 0,.int .i64 0] 70) ⟨gp,1,none⟩ hgp3l).trans d1
 clear hk3 hbk3 hown3 hfr3 hgp3 hvl3 hvo3 hvl hvl' c0
 go_wp2_with fail
 refine wp_loop_rounds 2 ?_
 rw [rounds_succ]
 go_wp2_with (at_builtin;refine wpList_push _ rfl (.tmp 72) (.tmp 74) _ rfl B 70 i0 (.agg #[.int .i64 0,.int .i64 0]) 2 16 Tryz.underlying64 hi0 hz0 hz1 hz2 rfl (by decide) vl N _ Hvl.out.symm Hvl3.out rfl rfl (by simp [Value.oneCell']) (by unfold maxLen;omega) (by omega) hB3 ?_;intro v5 w5 hown5 hg5 hs5 hat5;have hbk5:=Hgp3.out.grown hg5 (own_bk_ne Hvl3.out Hgp3.out (by decide));have d5:w5.cell? ⟨gp,1,none⟩=some vl:=(hbk5.cell 1).trans rfl;have f5:=hbk5.frozen 1;rw [Hvl.out] at d5;obtain ⟨A9,c9,rfl,hm9⟩:=made_of_own hown5;have Hbk5:=Lib.hid hbk5;have Hown5:=Lib.hid hown5;have Hg5:=Lib.hid hg5;have Hat5:=Lib.hid hat5;clear hm9 hown5 hg5 hat5 hbk5)
 obtain ⟨g9,cur9,rfl,hg9,hb9,hcz9⟩:∃g9,∃cur:Array Value,A9=some ⟨g9,0,none⟩∧B≤g9∧Bk w5 g9 70 cur∧N*2+1 < cur.size:=by
  rcases Hown5.out.2 with ⟨h1,h2⟩|⟨g,cap,cur,h1,h2,h3,h4,h5,h6,h7⟩
  · omega
  · injection h1 with h1 _ _
    exact ⟨g,cur,h1,h2,h3,by omega⟩
 have hgpn:gp≠g9:=Bk.ne Hbk5.out hb9 (by decide)
 have hgp6:=Hbk5.out.set 1 (.slice (some ⟨g9,0,none⟩) (N+1) c9)
 have hb96:=hb9.far (p:=⟨gp,1,none⟩) (fun e=>hgpn e.symm) (.slice (some ⟨g9,0,none⟩) (N+1) c9)
 have hk6:Keep (PF gp ga vl vo vt) w2 (w5.setCell ⟨gp,1,none⟩ (.slice (some ⟨g9,0,none⟩) (N+1) c9)):=
  ((Hk3.out.mono (G:=PF gp ga vl vo vt) (fun b _ f=>by rcases f with f | f;exact .inr (.inl f);exact .inr (.inr (.inr (.inr f))))).grown Hg5.out (fun k hk=>.inl (.inr (.inr (.inl hk))))).setCell (.inl (.inl rfl)) _
 have hvl6:=own_same (w':=w5.setCell ⟨gp,1,none⟩ (.slice (some ⟨g9,0,none⟩) (N+1) c9)) Hown5.out fun b cs _ hb=>hb.far (p:=⟨gp,1,none⟩) (Bk.ne hb Hbk5.out (by decide)) _
 have hvo5:=own_same (w':=w5) Hvo3.out fun b cs _ hb=>hb.grown Hg5.out (own_bk_ne Hvl3.out hb (by decide))
 have hvo6:=own_same (w':=w5.setCell ⟨gp,1,none⟩ (.slice (some ⟨g9,0,none⟩) (N+1) c9)) hvo5 fun b cs _ hb=>hb.far (p:=⟨gp,1,none⟩) (Bk.ne hb Hbk5.out (by decide)) _
 have hga5:=Hbk3.out.grown Hg5.out (own_bk_ne Hvl3.out Hbk3.out (by decide))
 have hga6:=hga5.far (p:=⟨gp,1,none⟩) (Bk.ne hga5 Hbk5.out (by decide)) (.slice (some ⟨g9,0,none⟩) (N+1) c9)
 have hvt5:=own_same (w':=w5) Hown3.out fun b cs _ hb=>hb.grown Hg5.out (own_bk_ne Hvl3.out hb (by decide))
 have hvt6:=own_same (w':=w5.setCell ⟨gp,1,none⟩ (.slice (some ⟨g9,0,none⟩) (N+1) c9)) hvt5 fun b cs _ hb=>hb.far (p:=⟨gp,1,none⟩) (Bk.ne hb Hbk5.out (by decide)) _
 have hfr6:(Value.slice (some ⟨g9,0,none⟩) (N+1) c9).ownBlock=vl.ownBlock∨∃g,(Value.slice (some ⟨g9,0,none⟩) (N+1) c9).ownBlock=some g∧w2.heap.size≤g:=by
  rcases Hat5.out with f | f
  · exact .inl f
  · exact .inr ⟨_,f,by have:=Hk3.out.size;omega⟩
 clear Hk3 Hbk3 Hown3 Hgp3 Hvl3 Hvo3 Hbk5 Hown5 Hg5 Hat5 d1 fp e1 f5 d5 hvo5 hga5 hvt5
 generalize w5.setCell ⟨gp,1,none⟩ (.slice (some ⟨g9,0,none⟩) (N+1) c9)=w6 at hgp6 hb96 hk6 hvl6 hvo6 hga6 hvt6⊢
 have d1:w6.cell? ⟨gp,1,none⟩=some (.slice (some ⟨g9,0,none⟩) (N+1) c9):=(hgp6.cell 1).trans rfl
 have x0:=hb96.cell (N*2)
 have x1:=hb96.cell (N*2+1)
 rw [Array.getElem?_eq_getElem (by omega)] at x0 x1
 have y0:=hb96.frozen (N*2)
 have y1:=hb96.frozen (N*2+1)
 generalize cur9[N*2]'(by omega)=u0 at x0
 generalize cur9[N*2+1]'(by omega)=u1 at x1
 have Hgp6:=Lib.hid hgp6
 have Hb96:=Lib.hid hb96
 have Hk6:=Lib.hid hk6
 have Hvl6:=Lib.hid hvl6
 have Hvo6:=Lib.hid hvo6
 have Hga6:=Lib.hid hga6
 have Hvt6:=Lib.hid hvt6
 have Hfr6:=Lib.hid hfr6
 have hlt1:decide (N+1≤N)=false:=by simp
 have hlt2:decide ((N:Int)+1≤(N:Int))=false:=by simp;omega
 have d2:w6.cell? ⟨gp,2,none⟩=some vo:=(hgp6.cell 2).trans rfl
 obtain ⟨Ao,co,hvo,_⟩:=own_shape hvo6
 have hvo':vo=.slice Ao n co:=by rw [hvo,Hn.out]
 have Hvo:=Lib.hid hvo'
 rw [hvo'] at d2
 clear hgp6 hb96 hk6 hvl6 hvo6 hga6 hvt6 hfr6 hvo hvo' hb9 hcz9
 rw [rounds_succ]
 go_wp2_with fail
 have hvl7:=own_pair (C:=C) (y:=(0,0)) (g:=g9) (cap:=c9) (w:=w6) (B:=B) (by
  rw [HN.out,pairsL_snoc]
  exact Hvl6.out) (row,pos)
 rw [HN.out] at hvl7
 have hkk:Keep (fun b=>b=g9) w6 ((w6.setCell ⟨g9,N*2,none⟩ (.int .i64 (row:Int))).setCell ⟨g9,N*2+1,none⟩ (.int .i64 (pos:Int))):=((Keep.refl (fun b=>b=g9) w6).setCell (p:=⟨g9,N*2,none⟩) (.inl rfl) _).setCell (p:=⟨g9,N*2+1,none⟩) (.inl rfl) _
 have hsz7:((w6.setCell ⟨g9,N*2,none⟩ (.int .i64 (row:Int))).setCell ⟨g9,N*2+1,none⟩ (.int .i64 (pos:Int))).heap.size=w6.heap.size:=by simp [World.setCell]
 rw [←hsz7]
 clear x0 x1 y0 y1 d1 d2 hlt1 hlt2
 generalize (w6.setCell ⟨g9,N*2,none⟩ (.int .i64 (row:Int))).setCell ⟨g9,N*2+1,none⟩ (.int .i64 (pos:Int))=w7 at hvl7 hkk hsz7⊢
 have hgp7:=hkk.bk Hgp6.out (fun f=>hgpn f)
 have hga7:=hkk.bk Hga6.out (fun f=>by subst f;exact Bk.ne Hga6.out Hb96.out (by decide) rfl)
 have hvo7:=own_keepT Hvo6.out hkk (fun b cs f hb=>by subst f;exact Bk.ne hb Hb96.out (by decide) rfl)
 have hvt7:=own_keepT Hvt6.out hkk (fun b cs f hb=>by subst f;exact Bk.ne hb Hb96.out (by decide) rfl)
 have hB2:B≤w2.heap.size:=by have:=HB.out;have:=Hb2.out.size;omega
 have hB6:=Hk6.out.size
 have hB7:B≤(w7.alloc (.cells #[.int .i64 (N:Int)] 3)).heap.size:=by simp;omega
 have hz8:w7.heap.size < (w7.alloc (.cells #[.int .i64 (N:Int)] 3)).heap.size:=by simp
 have hrd8:Rd (w7.alloc (.cells #[.int .i64 (N:Int)] 3)) (w7.alloc (.cells #[.int .i64 (N:Int)] 3)).heap.size 1 (some ⟨w7.heap.size,0,none⟩) 1 [sv N]:=(Rd.new_ w7 3 1 #[.int .i64 (N:Int)] rfl).mono (by simp)
 have hvo8:=hvo7.alloc (.cells #[.int .i64 (N:Int)] 3)
 have hvl8:=hvl7.alloc (.cells #[.int .i64 (N:Int)] 3)
 have hvt8:=hvt7.alloc (.cells #[.int .i64 (N:Int)] 3)
 have hgp8:=hgp7.alloc (.cells #[.int .i64 (N:Int)] 3)
 have hga8:=hga7.alloc (.cells #[.int .i64 (N:Int)] 3)
 have hb78:Below w7.heap.size w7 (w7.alloc (.cells #[.int .i64 (N:Int)] 3)):=(Below.refl _ _).alloc (Nat.le_refl _) _
 obtain ⟨g7,hg7⟩:∃g,w7.heap.size=g:=⟨_,rfl⟩
 rw [hg7] at hrd8 hz8
 rw [hg7]
 generalize w7.alloc (.cells #[.int .i64 (N:Int)] 3)=w8 at hB7 hrd8 hvo8 hvl8 hvt8 hgp8 hga8 hb78 hz8⊢
 have hk8:Keep (PF gp ga vl vo vt) w2 w8:=(Hk6.out.trans' (hkk.trans' (Keep.of_below hb78) (fun _ _ f=>f)) (fun b hb f=>by
  rcases Hfr6.out with h |⟨g,h,h'⟩
  · exact .inr (.inr (.inl (by rw [←h,f];rfl)))
  · exfalso
    have:g9=g:=by simpa [Value.ownBlock] using h
    omega))
 rw [Hn.out,Hvo.out] at hvo8
 have hins:=InsertEnd_any B Ao n co (ks.map sv) (some ⟨g7,0,none⟩) 1 N w8 hvo8 hrd8 hB7 (by omega)
 refine hins.mono ?_
 clear hins
 rintro e w9 ⟨v9,rfl,hown9,hg9',hat9⟩
 rw [←Hvo.out] at hg9' hat9 hvo8
 have hgp9:=hgp8.grown hg9' (own_bk_ne hvo8 hgp8 (by decide))
 have hga9:=hga8.grown hg9' (own_bk_ne hvo8 hga8 (by decide))
 have hvl9:=own_same (w':=w9) hvl8 fun b cs _ hb=>hb.grown hg9' (own_bk_ne hvo8 hb (by decide))
 have hvt9:=own_same (w':=w9) hvt8 fun b cs _ hb=>hb.grown hg9' (own_bk_ne hvo8 hb (by decide))
 have hk9:=hk8.grown hg9' (fun k hk=>.inl (.inr (.inr (.inr (.inl hk)))))
 have hfr9:v9.ownBlock=vo.ownBlock∨∃g,v9.ownBlock=some g∧w2.heap.size≤g:=by
  rcases hat9 with f | f
  · exact .inl f
  · exact .inr ⟨_,f,hk8.size⟩
 have d2:w9.cell? ⟨gp,2,none⟩=some vo:=(hgp9.cell 2).trans rfl
 rw [Hvo.out] at d2
 have f2:=hgp9.frozen 2
 obtain ⟨A',c',hv9,_⟩:=own_shape hown9
 have Hv9:=Lib.hid hv9
 have Hgp9:=Lib.hid hgp9
 have Hga9:=Lib.hid hga9
 have Hvl9:=Lib.hid hvl9
 have Hvt9:=Lib.hid hvt9
 have Hown9:=Lib.hid hown9
 have Hk9:=Lib.hid hk9
 have Hfr9:=Lib.hid hfr9
 clear hvl7 hkk hsz7 hgp7 hga7 hvo7 hvt7 hB7 hz8 hrd8 hvo8 hvl8 hvt8 hgp8 hga8 hb78 hg7 hk8 hg9' hat9 hgp9 hga9 hvl9 hvt9 hown9 hk9 hfr9
 subst hv9
 go_wp2_with fail
 go_ret
 have hne:∀b t cs,Bk w9 b t cs→t≠68→Bk (w9.setCell ⟨gp,2,none⟩ (.slice A' (n+1) c')) b t cs:=fun b t cs hb ht=>hb.far (p:=⟨gp,2,none⟩) (Bk.ne hb Hgp9.out ht) _
 refine ⟨rfl,(Keep.of_below Hb2.out).trans' (Hk9.out.setCell (.inl (.inl rfl)) _) (fun _ _ f=>f),.slice (some ⟨g9,0,none⟩) (N+1) c9,.slice A' (n+1) c',vt',⟨Hgp9.out.set 2 _,?_,?_,hne _ _ _ Hga9.out (by decide),?_,?_,?_,?_,H.out.lo⟩,?_,?_,?_⟩
 · have:=own_same (w':=w9.setCell ⟨gp,2,none⟩ (.slice A' (n+1) c')) Hvl9.out fun b cs _ hb=>hne _ _ _ hb (by decide)
   simpa [HN.out] using this
 · have:=own_same (w':=w9.setCell ⟨gp,2,none⟩ (.slice A' (n+1) c')) Hown9.out fun b cs _ hb=>hne _ _ _ hb (by decide)
   simpa [Hn.out,HN.out] using this
 · have:=own_same (w':=w9.setCell ⟨gp,2,none⟩ (.slice A' (n+1) c')) Hvt9.out fun b cs _ hb=>hne _ _ _ hb (by decide)
   simpa [Ht.out,HN.out] using this
 · exact World.ownsRow_nil _ _ _ _
 · rcases (Value.slice A' (n+1) c').ownBlock with _ | g
   · exact .inl rfl
   · exact .inr (by simp [Value.ownBlock])
 · intro k hk
   rcases List.mem_append.1 hk with h | h
   · have:=H.out.lt k h
     simp
     omega
   · simp at h
     simp
     omega
 · rcases Hfr9.out with f |⟨g,f,f'⟩
   · exact .inl f
   · exact .inr ⟨g,f,by have:=Hb2.out.size;omega⟩
 · rcases Hfr6.out with f |⟨g,f,f'⟩
   · exact .inl f
   · exact .inr ⟨g,f,by have:=Hb2.out.size;omega⟩
 · rcases Hfr3.out with f |⟨g,f,f'⟩
   · exact .inl f
   · exact .inr ⟨g,f,by have:=Hb2.out.size;omega⟩
end Go.Proofs.YtipaccakmndkgaaGreat
namespace Go.Proofs.YtipaccakmndkgaaGreat
open Go.RowKit Go.Shelf
set_option linter.unusedVariables false
set_option linter.unusedSimpArgs false
theorem setCells_bk (g:Nat):∀(vs:List Value) (o:Nat) (w:World) (t:TypeId) (cs:Array Value),Bk w g t cs→∃cs':Array Value,Bk (w.setCells g o vs) g t cs'∧cs'.size=cs.size∧∀j,j < cs.size→cs'[j]?=if o≤j∧j < o+vs.length then vs[j - o]? else cs[j]?
 | [],o,w,t,cs,h=>⟨cs,h,rfl,fun j hj=>by rw [if_neg (by simp)]⟩
 | v::vs,o,w,t,cs,h=>by
   obtain ⟨cs',h1,h2,h3⟩:=setCells_bk g vs (o+1) (w.setCell ⟨g,o,none⟩ v) t _ (h.set o v)
   refine ⟨cs',h1,by rw [h2];simp,fun j hj=>?_⟩
   rw [h3 j (by simpa using hj)]
   by_cases c:o+1≤j∧j < o+1+vs.length
   · rw [if_pos c,if_pos (by simp;omega),show j - o=(j -(o+1))+1 by omega]
     rfl
   · rw [if_neg c,Array.getElem?_setIfInBounds]
     by_cases e:o=j
     · subst e
       rw [if_pos rfl,if_pos hj,if_pos (by simp),Nat.sub_self]
       rfl
     · rw [if_neg e,if_neg (by simp;omega)]
theorem setCells_keep (g:Nat):∀(vs:List Value) (o:Nat) (w0 w:World),Keep (fun b=>b=g) w0 w→Keep (fun b=>b=g) w0 (w.setCells g o vs)
 | [],_,_,_,h=>h
 | v::vs,o,w0,w,h=>setCells_keep g vs (o+1) w0 (w.setCell ⟨g,o,none⟩ v) (h.setCell (p:=⟨g,o,none⟩) (.inl rfl) v)
theorem setCells_keep_new {F:Nat→Prop} (g:Nat):∀(vs:List Value) (o:Nat) (w0 w:World),w0.heap.size≤g→Keep F w0 w→Keep F w0 (w.setCells g o vs)
 | [],_,_,_,_,h=>h
 | v::vs,o,w0,w,hg,h=>setCells_keep_new g vs (o+1) w0 (w.setCell ⟨g,o,none⟩ v) hg (h.setCell (p:=⟨g,o,none⟩) (.inr hg) v)
theorem Bk.shape {w:World} {g:Nat} {t:TypeId} {cs:Array Value} (h:Bk w g t cs):w.shape? g=some (t,cs.size):=by
 unfold Bk at h
 unfold World.shape?
 rw [h]
theorem ei_take_ext {cs:Array Value} {xs:List Value} {n:Nat} (hl:xs.length=n) (hn:n≤cs.size) (h:∀j,j < n→cs[j]?=xs[j]?):cs.toList.take n=xs:=by
 apply List.ext_getElem?
 intro j
 by_cases hj:j < n
 · rw [List.getElem?_take_of_lt hj,Array.getElem?_toList]
   exact h j hj
 · rw [List.getElem?_take_eq_none (by omega),List.getElem?_eq_none (by omega)]
theorem own_cells {w:World} {B g n c:Nat} {e:TypeId} {xs:List Value} (h:w.ownsRow B e 1 (.slice (some ⟨g,0,none⟩) n c) n xs) (hn:0 < n):∃cs:Array Value,Bk w g e cs∧cs.size=c∧n≤c∧c≤maxLen∧B≤g∧∀j,j < n→cs[j]?=xs[j]?:=by
 rcases h.2 with ⟨h1,h2⟩|⟨g',cap,cs,h1,hb,hg,hnc,hm,hsz,htk⟩
 · cases h1
 · injection h1 with h1 _ h3
   injection h1 with h1
   injection h1 with h1 _
   subst h1 h3
   refine ⟨cs,hg,by omega,hnc,hm,hb,fun j hj=>?_⟩
   rw [Nat.mul_one] at htk
   rw [←htk,List.getElem?_take_of_lt hj,Array.getElem?_toList]
def InsPost (B:Nat) (v0:Value) (n:Nat) (xs:List Value) (w:World) (e:Ending) (w':World):Prop:=
 ∃A c,e=.returned (.slice A (n+1) c)∧w'.ownsRow B 3 1 (.slice A (n+1) c) (n+1) xs∧Keep (fun b=>v0.ownBlock=some b) w w'∧((Value.slice A (n+1) c).ownBlock=v0.ownBlock∨∃g,(Value.slice A (n+1) c).ownBlock=some g∧w.heap.size≤g)
theorem InsertMid_any (B:Nat) (A:Option Addr) (n c i:Nat) (ks:List Nat) (gx k:Nat) (w:World) (hown:w.ownsRow B 3 1 (.slice A n c) n (ks.map sv)) (hx:Bk w gx 3 #[sv k]) (hxg:∀b,(Value.slice A n c).ownBlock=some b→b≠gx) (hB:B≤w.heap.size) (hi:i < n) (hn:n≤1000000):
 Calls Tryz.prog 48 #[.slice A n c,.int .i64 (i:Int),.slice (some ⟨gx,0,none⟩) 1 1] w (InsPost B (.slice A n c) n ((insN ks i k).map sv) w):=by
 have hl:ks.length=n:=by have:=hown.1;simpa using this
 obtain ⟨g,k1,e1,_,hgl⟩:=World.ownsRow.form hown (by omega)
 injection e1 with e1 _ e3
 subst e1 e3
 obtain ⟨cs,hg,hcs,hnc,hm,hBg,hcell⟩:=own_cells hown (by omega)
 have hne:gx≠g:=fun e=>hxg g rfl e.symm
 have hcs0:∀j v,(ks.map sv)[j]?=some v→w.cell? ⟨g,0+j,none⟩=some v:=fun j v hv=>by
  have hj:j < n:=by
   have:=(List.getElem?_eq_some_iff.1 hv).1
   simpa [hl] using this
  rw [Nat.zero_add,hg.cell,hcell j hj,hv]
 have hvs0:∀j v, [sv k][j]?=some v→w.cell? ⟨gx,0+j,none⟩=some v:=fun j v hv=>by
  rw [Nat.zero_add,hx.cell,←hv]
  rcases j with _ | j
  · rfl
  · simp at hv
 have h1c:∀v∈ks.map sv,v.oneCell'=true:=fun v hv=>by
  obtain ⟨a,_,rfl⟩:=List.mem_map.1 hv
  rfl
 have h1v:∀v∈ [sv k],v.oneCell'=true:=fun v hv=>by
  rw [List.mem_singleton] at hv
  subst hv
  rfl
 have hins:∀j,j < n+1→((insN ks i k).map sv)[j]?=if j < i then (ks.map sv)[j]? else if j=i then some (sv k) else (ks.map sv)[j - 1]?:=fun j hj=>by
  rw [insN_map,insN_get _ _ (by rw [List.length_map];omega)]
 have hil:((insN ks i k).map sv).length=n+1:=by rw [List.length_map,insN_len _ _ (by omega),hl]
 by_cases hroom:n+1≤c
 · have hcell':∀j,j < n+1→w.cell? ⟨g,0+j,none⟩=some (cs.getD j (.bool false)):=fun j hj=>by
    rw [Nat.zero_add,hg.cell,Array.getElem?_eq_getElem (by omega)]
    congr 1
    rw [Array.getD_eq_getD_getElem?,Array.getElem?_eq_getElem (by omega)]
    rfl
   have hcall:=Any2.slices_Insert_int_shift shIns g 0 n c i gx 0 1 1 (ks.map sv) [sv k] w hi (by decide) hroom (by unfold maxLen at hm;omega) hne (by simpa using hl) rfl hcs0 (fun j hj=>by rw [hcell' j hj];rfl) (fun j hj=>by rw [Nat.zero_add];exact hg.frozen j) hvs0 h1c h1v 3 3 1 cs.size (hx.shape) (hg.shape) (by omega) (hx.frozen 0) (hx.frozen 1)
   refine hcall.mono ?_
   rintro e w' ⟨rfl,rfl⟩
   obtain ⟨cs1,p1,p2,p3⟩:=setCells_bk g ((ks.map sv).drop i) (0+(i+1)) w.drew _ _ hg.drew
   obtain ⟨cs2,q1,q2,q3⟩:=setCells_bk g [sv k] (0+i) _ _ _ p1
   refine ⟨_,c,rfl,⟨by rw [hil,Nat.mul_one],.inr ⟨g,c,cs2,rfl,hBg,q1,hroom,hm,by omega,?_⟩⟩,(setCells_keep g _ _ w _ (setCells_keep g _ _ w _ (Keep.refl _ w).drew)).mono fun b _ e=>by rw [show b=g from e];rfl,.inl rfl⟩
   rw [Nat.mul_one]
   refine ei_take_ext hil (by omega) fun j hj=>?_
   rw [hins j hj,q3 j (by omega),p3 j (by omega)]
   simp only [List.length_cons,List.length_nil,List.length_drop,List.length_map,hl]
   by_cases c1:j < i
   · rw [if_neg (by omega),if_neg (by omega),if_pos c1,hcell j (by omega)]
   · by_cases c2:j=i
     · subst c2
       rw [if_pos (by omega),if_neg (by omega),if_pos rfl]
       simp
     · rw [if_neg (by omega),if_pos (by omega),if_neg c1,if_neg c2,List.getElem?_drop]
       congr 1
       omega
 · have hcall:=Any2.slices_Insert_int_grow shIns g 0 n c i gx 0 1 1 (ks.map sv) [sv k] w hi (by decide) hnc (by omega) (by omega) (by simpa using hl) rfl hcs0 hvs0 h1c h1v
   refine hcall.mono ?_
   rintro e w' ⟨rfl,rfl⟩
   obtain ⟨N,hN⟩:∃N,grownCap w (n+1) c 3=N:=⟨_,rfl⟩
   have hN1:n+1≤N:=by rw [←hN];exact grownCap_ge _ _ _ _
   have hN2:N≤maxLen:=by rw [←hN];exact grownCap_le_maxLen _ _ _ _ (by unfold maxLen;omega)
   show InsPost _ _ _ _ _ (.returned (.slice _ _ (grownCap w (n+1) c 3))) _
   rw [hN]
   have hz:∀q,(Builtin.zeroCells (Value.int .i64 0).cells q).size=q:=fun q=>by simp [Builtin.zeroCells,Value.cells]
   obtain ⟨C0,hC0⟩:∃C0,((ks.map sv).take i).toArray++Builtin.zeroCells (Value.int .i64 0).cells (n+1 - i)++Builtin.zeroCells (Value.int .i64 0).cells (N -(n+1))=C0:=⟨_,rfl⟩
   have hC0s:C0.size=N:=by
    rw [←hC0,Array.size_append,Array.size_append,hz,hz]
    simp [hl]
    omega
   have hC0g:∀j,j < i→C0[j]?=(ks.map sv)[j]?:=fun j hj=>by
    have hs:(((ks.map sv).take i).toArray).size=i:=by simp [hl];omega
    rw [←hC0,Array.append_assoc,Array.getElem?_append_left (by omega),List.getElem?_toArray,List.getElem?_take_of_lt hj]
   have hb0:Bk (w.alloc (.cells C0 3)) w.heap.size 3 C0:=Bk.new _ _ _
   have hcs:=hC0
   show InsPost _ _ _ _ _ _ ((((w.alloc (.cells (((ks.map sv).take i).toArray++Builtin.zeroCells (Value.int .i64 0).cells (n+1 - i)++Builtin.zeroCells (Value.int .i64 0).cells (grownCap w (n+1) c 3 -(n+1))) 3)).drew.setCells w.heap.size i [sv k]).drew).setCells w.heap.size (i+1) ((ks.map sv).drop i))
   rw [hN,hC0]
   obtain ⟨cs1,p1,p2,p3⟩:=setCells_bk w.heap.size [sv k] i _ _ _ hb0.drew
   obtain ⟨cs2,q1,q2,q3⟩:=setCells_bk w.heap.size ((ks.map sv).drop i) (i+1) _ _ _ p1.drew
   refine ⟨_,N,rfl,⟨by rw [hil,Nat.mul_one],.inr ⟨w.heap.size,N,cs2,rfl,hB,q1,hN1,hN2,by omega,?_⟩⟩,setCells_keep_new _ _ _ w _ (Nat.le_refl _) (setCells_keep_new _ _ _ w _ (Nat.le_refl _) ((Keep.refl _ w).alloc _).drew).drew,.inr ⟨_,rfl,Nat.le_refl _⟩⟩
   rw [Nat.mul_one]
   refine ei_take_ext hil (by omega) fun j hj=>?_
   rw [hins j hj,q3 j (by omega),p3 j (by omega)]
   simp only [List.length_cons,List.length_nil,List.length_drop,List.length_map,hl]
   by_cases c1:j < i
   · rw [if_neg (by omega),if_neg (by omega),if_pos c1,hC0g j c1]
   · by_cases c2:j=i
     · subst c2
       rw [if_neg (by omega),if_pos (by omega),if_neg c1,if_pos rfl]
       simp
     · rw [if_pos (by omega),if_neg c1,if_neg c2,List.getElem?_drop]
       congr 1
       omega
theorem InsertAny_any (B:Nat) (A:Option Addr) (n c i:Nat) (ks:List Nat) (gx k:Nat) (w:World) (hown:w.ownsRow B 3 1 (.slice A n c) n (ks.map sv)) (hx:Bk w gx 3 #[sv k]) (hxg:∀b,(Value.slice A n c).ownBlock=some b→b≠gx) (hB:B≤w.heap.size) (hi:i≤n) (hn:n≤1000000):
 Calls Tryz.prog 48 #[.slice A n c,.int .i64 (i:Int),.slice (some ⟨gx,0,none⟩) 1 1] w (InsPost B (.slice A n c) n ((insN ks i k).map sv) w):=by
 by_cases h:i < n
 · exact InsertMid_any B A n c i ks gx k w hown hx hxg hB h hn
 · obtain rfl:i=n:=by omega
   have hl:ks.length=i:=by have:=hown.1;simpa using this
   have hr:Rd w w.heap.size 1 (some ⟨gx,0,none⟩) 1 [sv k]:=by
    refine ⟨rfl,fun _=>⟨gx,0,rfl,hx.lt,fun j u hu=>?_⟩⟩
    rcases j with _ | j
    · injection hu with hu
      subst hu
      exact (hx.cell 0).trans rfl
    · simp at hu
   refine (InsertEnd_any B A i c (ks.map sv) (some ⟨gx,0,none⟩) 1 k w hown hr hB hn).mono ?_
   rintro e w' ⟨v,rfl,ho,hg,hv⟩
   have e1:(insN ks i k).map sv=ks.map sv++ [sv k]:=by
    unfold insN
    rw [List.take_of_length_le (by omega),List.drop_of_length_le (by omega),List.map_append]
    rfl
   obtain ⟨A',c',rfl,_⟩:=own_shape ho
   refine ⟨A',c',rfl,by rw [e1];exact ho,⟨hg.os,hg.tape,hg.output,hg.size,fun b hb hne=>hg.block b hb fun e=>hne e.symm⟩,?_⟩
   rcases hv with hv | hv
   · exact .inl hv
   · exact .inr ⟨_,hv,Nat.le_refl _⟩
end Go.Proofs.YtipaccakmndkgaaGreat
namespace Go.Proofs.YtipaccakmndkgaaGreat
open Go.RowKit
set_option linter.unusedVariables false
set_option linter.unusedSimpArgs false
theorem u8_info:(Tryz.prog.info? 5).map (fun i=>(i.zero,i.size,i.bytes))=some (some (.int .u8 0),1,1):=by kernel_rfl
set_option maxRecDepth 100000 in
set_option maxHeartbeats 1000000 in
theorem Grow_nil (n:Nat) (w:World) (hn:n≤1099511627776):
 Calls Tryz.prog 36 #[.slice none 0 0,.int .i64 (n:Int)] w fun e w'=>∃v,e=.returned v∧w'.ownsRow w.heap.size 5 1 v 0 []∧Below w.heap.size w w':=by
 obtain ⟨i0,hi0,hz0,hz1,hz2⟩:=info_parts u8_info
 rcases Nat.eq_zero_or_pos n with h0 | h0
 · subst h0
   go_enter Tryz.func36,Tryz.ntmps36
   go_wp2
   go_ret
   exact ⟨_,rfl,World.ownsRow_nil _ _ _ _,Below.refl _ _⟩
 · have hrun:=Lib.run_append_nil_zeros (P:=Tryz.prog) w 23 3 23 5 i0 (.int .u8 0) .i64 .i64 Tryz.underlying23 Tryz.underlying3 hi0 hz0 n h0 (by omega) (by omega) (by rw [hz2];omega)
   have hge:=grownCap_ge w n 0 5
   have hle:=grownCap_le_maxLen w n 0 5 (by unfold maxLen;omega)
   generalize grownCap w n 0 5=cp at*
   have hsz:(Builtin.zeroCells (Value.int .u8 0).cells n++Builtin.zeroCells (Value.int .u8 0).cells (cp - n)).size=cp*1:=by
    simp [Builtin.zeroCells,Value.cells]
    omega
   have Hsz:=Lib.hid hsz
   have Hrun:=Lib.hid hrun
   clear hsz hrun
   have hdec:¬((n:Int) < 0):=by omega
   go_enter Tryz.func36,Tryz.ntmps36
   go_wp2_with (at_builtin;refine Lib.wpList_append_run _ rfl (.tmp 20) (.tmp 21) _ _ rfl _ _ rfl rfl _ _ Hrun.out ?_)
   go_ret
   exact ⟨_,rfl,World.ownsRow_made _ _ _ (Nat.le_refl _) hle Hsz.out,(Below.refl _ _).drew.alloc (Nat.le_refl _) _⟩
structure Sl where
 A:Option Addr
 n:Nat
 c:Nat
 l:List UInt8
def slV (s:Sl):Value:=.slice s.A s.n s.c
def catS (ss:List Sl):List UInt8:=ss.flatMap (·.l)
theorem catS_snoc (ss:List Sl) (k:Nat) (s:Sl) (h:ss[k]?=some s):catS (ss.take (k+1))=catS (ss.take k)++s.l:=by
 rw [List.take_add_one,h]
 simp [catS]
theorem catS_take_le (ss:List Sl) (k:Nat):(catS (ss.take k)).length≤(catS ss).length:=by
 have:catS ss=catS (ss.take k)++catS (ss.drop k):=by
  unfold catS
  rw [←List.flatMap_append,List.take_append_drop]
 rw [this,List.length_append]
 omega
set_option maxRecDepth 100000 in
set_option maxHeartbeats 1000000 in
theorem Concat_any (A0:Option Addr) (m0 c0 B:Nat) (ss:List Sl) (T:List UInt8) (N:Nat) (hT:catS ss=T) (hN:T.length=N) (w:World) (hr0:Rd w B 1 A0 m0 (ss.map slV)) (hss:∀s∈ss,Rd w B 1 s.A s.n (s.l.map bv)) (hB:B≤w.heap.size) (hm:m0≤1099511627776) (hn:N≤1099511627776):
 Calls Tryz.prog 12 #[.slice A0 m0 c0] w fun e w'=>∃A' c',e=.returned (.slice A' N c')∧Made w' w.heap.size 5 1 A' N c' (T.map bv)∧Below w.heap.size w w':=by
 obtain ⟨i0,hi0,hz0,hz1,hz2⟩:=info_parts u8_info
 have hlen:ss.length=m0:=by simpa using hr0.1
 have hpart:∀k,(catS (ss.take k)).length≤1099511627776:=fun k=>by have:=catS_take_le ss k;rw [hT] at this;omega
 have hrow:∀k s,ss[k]?=some s→s.l.length=s.n∧(catS (ss.take (k+1))).length=(catS (ss.take k)).length+s.n:=fun k s hs=>by
  have h1:=(hss s (List.mem_of_getElem? hs)).1
  have h2:s.l.length=s.n:=by simpa using h1
  rw [catS_snoc ss k s hs,List.length_append,h2]
  exact ⟨rfl,rfl⟩
 have Hlen:=Lib.hid hlen
 have Hpart:=Lib.hid hpart
 have Hrow:=Lib.hid hrow
 have Hr0:=Lib.hid (hr0.mono hB)
 have Hss:=Lib.hid (fun s hs=>(hss s hs).mono hB)
 have HT:=Lib.hid hT
 have HN:=Lib.hid hN
 clear hlen hpart hrow hr0 hss hT hN
 go_enter Tryz.func12,Tryz.ntmps12
 go_wp2
 go_loopw [3,11] (fun v i wr=>∃k:Nat,k≤m0∧i=.int .i64 k∧v=.int .i64 ((catS (ss.take k)).length:Int)∧w=wr) (fun _ i _=>m0 -(intOf i).toNat)
 case atStart=>exact ⟨0,Nat.zero_le _,rfl,by simp [catS],rfl⟩
 case round=>
  obtain ⟨k,hk,rfl,rfl,rfl⟩:=hrel
  by_cases hlt:k < m0
  · obtain ⟨s,hs⟩:∃s,ss[k]?=some s:=⟨ss[k]'(by have:=Hlen.out;omega),List.getElem?_eq_getElem (by have:=Hlen.out;omega)⟩
    obtain ⟨b,off,u,rfl,hbl,hu,hc⟩:=Hr0.out.get hlt
    rw [List.getElem?_map,hs] at hu
    simp at hu
    subst hu
    unfold slV at hc
    obtain ⟨h1,h2⟩:=Hrow.out k s hs
    have h3:=Hpart.out (k+1)
    generalize hq:(catS (ss.take k)).length=q at*
    have Hnext:=Lib.hid h2
    rw [h2] at h3
    clear h1 h2 hs hq
    have hneg:¬((q:Int)+(s.n:Int) < 0):=by omega
    go_wp2
    go_roundw
    case rel=>exact ⟨k+1,by omega,by go_num,by rw [Hnext.out];go_num,trivial⟩
    case measure=>simp [intOf];omega
  · have hkm:k=m0:=by omega
    have hge:m0≤k:=by omega
    have htk:ss.take k=ss:=List.take_of_length_le (by have:=Hlen.out;omega)
    rw [htk,HT.out,HN.out]
    clear hkm htk
    go_wp2_with fail
    refine (Grow_nil N _ hn).mono ?_
    rintro e w1 ⟨v1,rfl,hown1,hb1⟩
    go_wp2_with fail
    go_loopw [6,27] (fun v i wr=>∃k:Nat,k≤m0∧i=.int .i64 k∧wr.ownsRow w.heap.size 5 1 v (catS (ss.take k)).length ((catS (ss.take k)).map bv)∧Below w.heap.size w wr) (fun _ i _=>m0 -(intOf i).toNat)
    case atStart=>exact ⟨0,Nat.zero_le _,rfl,hown1,hb1⟩
    case round=>
        obtain ⟨k,hk,rfl,hown,hb⟩:=hrel
        have hsz:=hb.size
        by_cases hlt:k < m0
        · obtain ⟨s,hs⟩:∃s,ss[k]?=some s:=⟨ss[k]'(by have:=Hlen.out;omega),List.getElem?_eq_getElem (by have:=Hlen.out;omega)⟩
          obtain ⟨b,off,u,rfl,hbl,hu,hc⟩:=(Hr0.out.below hb).get hlt
          rw [List.getElem?_map,hs] at hu
          simp at hu
          subst hu
          unfold slV at hc
          have hrs:=Lib.hid ((Hss.out s (List.mem_of_getElem? hs)).below hb)
          obtain ⟨h1,h2⟩:=Hrow.out k s hs
          have h3:=Hpart.out (k+1)
          have hsn:=Lib.hid (catS_snoc ss k s hs)
          have Hnext:=Lib.hid h2
          generalize hq:(catS (ss.take k)).length=q at*
          rw [h2] at h3
          have Hown:=Lib.hid hown
          clear h1 h2 hs hown
          go_wp2_with (at_builtin;refine wpList_append_rd _ rfl (.tmp 31) (.tmp 32) _ rfl w.heap.size 5 i0 (.int .u8 0) 1 1 Tryz.underlying23 hi0 hz0 hz1 hz2 rfl (by decide) _ q _ rfl Hown.out w.heap.size s.A s.n s.c _ rfl hrs.out (oneCell_bv _) (by unfold maxLen;omega) (by omega) hsz ?_;intro v5 w5 hown5 hg5 hat5)
          have hB5:=below_grown hb Hown.out hg5 hsz
          go_roundw
          case rel=>
           refine ⟨k+1,by omega,by go_num,?_,hB5⟩
           rw [Hnext.out,hsn.out,List.map_append]
           exact hown5
          case measure=>simp [intOf];omega
        · have hkm:k=m0:=by omega
          have hge:m0≤k:=by omega
          have htk:ss.take k=ss:=List.take_of_length_le (by have:=Hlen.out;omega)
          rw [htk,HT.out,HN.out] at hown
          obtain ⟨A',c',rfl,hm'⟩:=made_of_own hown
          clear hkm htk hown
          go_wp2
          go_ret
          exact ⟨A',c',rfl,hm',hb⟩
end Go.Proofs.YtipaccakmndkgaaGreat
