/- A walk that owns its blocks (WalkE), over a tally of its own; the walks of walk's Back, Put, Cut, Change, Count. Conditions: symbols below 257; at most 128. The walk of live's Row: the row of the suffix from a place on. Conditions: a text of at most 127 bytes, as New makes it; a place that is there. Pairs in any order of their numbers (PermR): the walks of perm's All, Next (the least one), Row. Conditions: at most 1000 pairs, by rising rows. -/
import Derived.Test.YtipaccakmndkgaaGreatDoorPsl26
import Derived.Test.YtipaccakmndkgaaGreatDoorPsl12
import Derived.Test.YtipaccakmndkgaaGreatDoorPsl18
import Derived.Test.YtipaccakmndkgaaGreatDoorPsl27
import Derived.BigQuiet
set_option linter.unusedVariables false
set_option linter.unusedSimpArgs false
set_option maxRecDepth 100000
set_option maxHeartbeats 2000000
namespace Go.Proofs.YtipaccakmndkgaaGreatDoor
open Go.RowKit
def WalkT (w:World) (B gk:Nat) (L T:List Nat):Prop:=
 ∃gv gt,Bk w gk 99 #[.pointer (some ⟨gv,0,none⟩),.pointer (some ⟨gt,0,none⟩)]∧WaveAt w B gv L∧Bk w gt 232 (tcells T)
theorem WalkT.vis {w w':World} {B gk:Nat} {L T:List Nat} (h:WalkT w B gk L T) (k:Vis w w'):WalkT w' B gk L T:=by
 obtain ⟨gv,gt,h1,h2,h3⟩:=h
 exact ⟨gv,gt,k.bk h1 (by decide) (by decide),h2.vis k,k.bk h3 (by decide) (by decide)⟩
def narT (L T:List Nat) (s k:Nat):Nat:=T.countP (fun x=>decide (x < s))+(L.take k).count s
theorem WalkLenT_any (B gk:Nat) (L T:List Nat) (w:World) (h:WalkT w B gk L T):
 Calls Tryz.prog 126 #[.pointer (some ⟨gk,0,none⟩)] w fun e w'=>e=.returned (.int .i64 (L.length:Int))∧w=w':=by
 obtain ⟨gv,gt,h1,h2,h3⟩:=h
 have c0:=h1.cell 0
 clear h1 h3
 go_enter Tryz.func126,Tryz.ntmps126
 go_wp2_with fail
 refine (WaveLen_any B gv L _ h2).mono ?_
 rintro e w' ⟨rfl,rfl⟩
 go_wp2_with fail
 go_ret
 exact ⟨rfl,rfl⟩
theorem WalkBelowT_any (B gk:Nat) (L T:List Nat) (s:Nat) (w:World) (h:WalkT w B gk L T) (hs:s < 257) (hl:T.length≤1000):
 Calls Tryz.prog 145 #[.pointer (some ⟨gk,0,none⟩),.int .i64 (s:Int)] w fun e w'=>e=.returned (.int .i64 ((T.countP (fun x=>decide (x < s)):Nat):Int))∧Below w.heap.size w w':=by
 obtain ⟨gv,gt,h1,h2,h3⟩:=h
 have c1:=h1.cell 1
 clear h1 h2
 have H3:=lhd h3
 clear h3
 go_enter Tryz.func145,Tryz.ntmps145
 go_wp2_with fail
 refine (TallyBelow_any gt T s _ H3.out hs hl).mono ?_
 rintro e w' ⟨rfl,hb⟩
 obtain ⟨q,hq⟩:∃q,T.countP (fun x=>decide (x < s))=q:=⟨_,rfl⟩
 rw [hq]
 go_wp2_with fail
 go_ret
 exact ⟨by rw [hq];rfl,hb⟩
theorem WalkIsT_any (B gk:Nat) (L T:List Nat) (i:Nat) (w:World) (h:WalkT w B gk L T) (hi:i < L.length):
 Calls Tryz.prog 194 #[.pointer (some ⟨gk,0,none⟩),.int .i64 (i:Int)] w fun e w'=>e=.returned (.bool true)∧w=w':=by
 obtain ⟨n,hn⟩:∃n,L.length=n:=⟨_,rfl⟩
 rw [hn] at hi
 have hiI:(i:Int) < (n:Int):=by omega
 have Hn:=lhd hn
 have H:=lhd h
 clear hn h
 go_enter Tryz.func194,Tryz.ntmps194
 go_wp2_with fail
 refine (WalkLenT_any B gk L T w H.out).mono ?_
 rintro e w' ⟨rfl,rfl⟩
 rw [Hn.out]
 go_wp2_with fail
 go_ret
 exact ⟨rfl,rfl⟩
theorem WalkBackT_any (B gk:Nat) (L T:List Nat) (i s:Nat) (w:World) (h:WalkT w B gk L T) (his:L[i]?=some s) (hL:∀x∈L,x < 257) (hl:L.length≤1000) (hT:T.length≤1000):
 Calls Tryz.prog 129 #[.pointer (some ⟨gk,0,none⟩),.int .i64 (i:Int)] w fun e w'=>e=.returned (.int .i64 ((narT L T s i:Nat):Int))∧VB B w w':=by
 have hi:=(List.getElem?_eq_some_iff.1 his).1
 have hs:s < 257:=hL _ (List.mem_of_getElem? his)
 have hH:=h
 obtain ⟨gv,gt,h1,h2,h3⟩:=h
 have c0:=h1.cell 0
 have hlt:=h1.lt
 obtain ⟨j,hj⟩:∃j,narT L T s i=j:=⟨_,rfl⟩
 obtain ⟨q1,hq1⟩:∃q,T.countP (fun x=>decide (x < s))=q:=⟨_,rfl⟩
 obtain ⟨q2,hq2⟩:∃q,(L.take i).count s=q:=⟨_,rfl⟩
 have hj2:q1+q2=j:=by rw [←hq1,←hq2,←hj];rfl
 have hb1:q1≤1000:=by rw [←hq1];exact Nat.le_trans List.countP_le_length hT
 have hb2:q2≤1000:=by rw [←hq2];exact Nat.le_trans List.count_le_length (by rw [List.length_take];omega)
 rw [hj]
 have H:=lhd hH
 have H1:=lhd h1
 have H2:=lhd h2
 have Hi:=lhd hi
 have His:=lhd his
 have HL:=lhd hL
 have Hl:=lhd hl
 have HT:=lhd hT
 have Hq1:=lhd hq1
 have Hq2:=lhd hq2
 have Hj:=lhd hj2
 clear hH h1 h2 h3 hi his hL hl hq1 hq2 hj hj2
 go_enter Tryz.func129,Tryz.ntmps129
 go_wp2_with fail
 refine (WalkIsT_any B gk L T i w H.out Hi.out).mono ?_
 rintro e w1 ⟨rfl,rfl⟩
 go_wp2_with fail
 refine (WaveGet_any B gv L i s w H2.out Hi.out (List.getElem?_eq_some_iff.1 His.out).2 HL.out Hl.out).mono ?_
 rintro e W ⟨rfl,hv⟩
 have hW:=H.out.vis hv.1
 have h1W:=hv.1.bk H1.out (by decide) (by decide)
 have h2W:=H2.out.vis hv.1
 have HW:=lhd hW
 have H1W:=lhd h1W
 have H2W:=lhd h2W
 have Hv:=lhd hv
 clear hW h1W h2W hv c0
 go_wp2_with fail
 refine wp_region_any (by kernel_rfl) ?_
 refine wpAny_loose2 [20,21,22,23,24,25,26,27,28,29,30,4] (VB B) (Vs [is (.pointer (some ⟨gk,0,none⟩)),is (.int .i64 (s:Int)),is (.int .i64 (q1:Int)),is (.pointer (some ⟨gk,0,none⟩)),is (.pointer (some ⟨gk,0,none⟩)),is (.pointer (some ⟨gk,0,none⟩)),is (.pointer (some ⟨gv,0,none⟩)),is (.int .i64 (i:Int)),is (.int .i64 (s:Int)),is (.int .i64 (q2:Int)),is (.int .i64 (j:Int)),is (.int .i64 (j:Int))]) _ _ rfl (by kernel_rfl) (VisK.refl _ _) (fun _ _=>VisK.trans) (stbs_all (by repeat' (first | exact stbs_is _ _ | exact stbs_any _ |(refine List.forall_mem_cons.2 ⟨?_,?_⟩)|(intro p hp;cases hp)))) ?_ ?_
 · refine steps_of ?_
   refine steps_cons (step_on rfl rfl fun ev _ _ _ _ hold _ _ _ _ hK=>?_) ?_
   · have e0:ev (.tmp 0)=.pointer (some ⟨gk,0,none⟩):=hold 0 (by kernel_rfl)
     go_simp
     exact hK _ _ ((VisK.refl _ _)) rfl
   refine steps_cons (step_on rfl rfl fun ev _ _ _ _ hold _ _ _ _ hK=>?_) ?_
   · have e5:ev (.tmp 5)=.int .i64 (s:Int):=hold 5 (by kernel_rfl)
     go_simp
     exact hK _ _ ((VisK.refl _ _)) rfl
   refine steps_cons (step_on rfl rfl fun _ w5 hS _ _ _ hval _ _ _ hK=>?_) ?_
   · have e20:_=_:=hval 0 20 (by kernel_rfl) rfl
     have e21:_=_:=hval 1 21 (by kernel_rfl) rfl
     replace hS:(VB B) W w5:=⟨⟨hS.1.os,hS.1.tape,hS.1.output,hS.1.size,hS.1.block⟩,⟨hS.2.os,hS.2.tape,hS.2.output,hS.2.size,hS.2.block⟩⟩
     go_simp
     refine (WalkBelowT_any B gk L T s w5 (HW.out.vis hS.1) hs HT.out).mono ?_
     rintro e w8 ⟨rfl,hb8⟩
     rw [Hq1.out]
     exact hK _ _ (VisK.of_below hb8) rfl
   refine steps_cons (step_on rfl rfl fun ev _ _ _ _ hold _ _ _ _ hK=>?_) ?_
   · have e0:ev (.tmp 0)=.pointer (some ⟨gk,0,none⟩):=hold 0 (by kernel_rfl)
     go_simp
     exact hK _ _ ((VisK.refl _ _)) rfl
   refine steps_cons (step_on rfl rfl fun _ _ _ _ _ _ hval _ _ _ hK=>?_) ?_
   · have e23:_=_:=hval 3 23 (by kernel_rfl) rfl
     go_simp
     exact hK _ _ ((VisK.refl _ _)) rfl
   refine steps_cons (step_on rfl rfl fun _ _ _ _ _ _ hval _ _ _ hK=>?_) ?_
   · have e24:_=_:=hval 4 24 (by kernel_rfl) rfl
     go_simp
     exact hK _ _ ((VisK.refl _ _)) rfl
   refine steps_cons (step_on rfl rfl fun _ w5 hS _ _ _ hval _ _ _ hK=>?_) ?_
   · have e25:_=_:=hval 5 25 (by kernel_rfl) rfl
     replace hS:(VB B) W w5:=⟨⟨hS.1.os,hS.1.tape,hS.1.output,hS.1.size,hS.1.block⟩,⟨hS.2.os,hS.2.tape,hS.2.output,hS.2.size,hS.2.block⟩⟩
     have c26:w5.cell? ⟨gk,0,none⟩=some (.pointer (some ⟨gv,0,none⟩)):=((hS.1.bk H1W.out (by decide) (by decide)).cell 0).trans rfl
     go_simp
     exact hK _ _ ((VisK.refl _ _)) rfl
   refine steps_cons (step_on rfl rfl fun ev _ _ _ _ hold _ _ _ _ hK=>?_) ?_
   · have e1:ev (.tmp 1)=.int .i64 (i:Int):=hold 1 (by kernel_rfl)
     go_simp
     exact hK _ _ ((VisK.refl _ _)) rfl
   refine steps_cons (step_on rfl rfl fun ev _ _ _ _ hold _ _ _ _ hK=>?_) ?_
   · have e5:ev (.tmp 5)=.int .i64 (s:Int):=hold 5 (by kernel_rfl)
     go_simp
     exact hK _ _ ((VisK.refl _ _)) rfl
   refine steps_cons (step_on rfl rfl fun _ w5 hS _ _ _ hval _ _ _ hK=>?_) ?_
   · have e26:_=_:=hval 6 26 (by kernel_rfl) rfl
     have e27:_=_:=hval 7 27 (by kernel_rfl) rfl
     have e28:_=_:=hval 8 28 (by kernel_rfl) rfl
     replace hS:(VB B) W w5:=⟨⟨hS.1.os,hS.1.tape,hS.1.output,hS.1.size,hS.1.block⟩,⟨hS.2.os,hS.2.tape,hS.2.output,hS.2.size,hS.2.block⟩⟩
     go_simp
     refine (WaveRank_any B gv L i s w5 (H2W.out.vis hS.1) hs (Nat.le_of_lt Hi.out) HL.out Hl.out).mono ?_
     rintro e w8 ⟨rfl,hv8⟩
     rw [Hq2.out]
     exact hK _ _ hv8 rfl
   refine steps_cons (step_on rfl rfl fun _ _ _ _ _ _ hval _ _ _ hK=>?_) ?_
   · have e22:_=_:=hval 2 22 (by kernel_rfl) rfl
     have e29:_=_:=hval 9 29 (by kernel_rfl) rfl
     have hx1:IntKind.i64.wrap ((q1:Int)+(q2:Int))=(j:Int):=by rw [IntKind.wrap_i64];have:=Hj.out;omega
     go_simp
     exact hK _ _ ((VisK.refl _ _)) rfl
   refine steps_cons (step_on rfl rfl fun _ _ _ _ _ _ hval _ _ _ hK=>?_) ?_
   · have e30:_=_:=hval 10 30 (by kernel_rfl) rfl
     go_simp
     exact hK _ _ ((VisK.refl _ _)) rfl
   exact steps_nil
 · intro ev w6 hS hval
   replace hS:(VB B) W w6:=⟨⟨hS.1.os,hS.1.tape,hS.1.output,hS.1.size,hS.1.block⟩,⟨hS.2.os,hS.2.tape,hS.2.output,hS.2.size,hS.2.block⟩⟩
   have e4:ev (.tmp 4)=.int .i64 (j:Int):=hval 11 4 rfl
   simp only [putsOf,List.foldl_cons,List.foldl_nil,Act.put,List.setIfInBounds_toArray,List.set_cons_zero,List.set_cons_succ]
   rw [e4]
   clear hval
   have hv6:=Hv.out.trans hS
   go_wp2_with fail
   go_ret
   exact ⟨rfl,hv6⟩
def WalkE (w:World) (B:Nat) (own:Nat→Nat) (gk:Nat) (L T:List Nat):Prop:=
 ∃gv gt,Bk w gk 99 #[.pointer (some ⟨gv,0,none⟩),.pointer (some ⟨gt,0,none⟩)]∧own gk=2∧WaveE w B own gv L∧Bk w gt 232 (tcells T)∧own gt=2
section
variable {w w' : World} {B : Nat} {own own' : Nat → Nat} {gk : Nat} {L T : List Nat}
theorem WalkE.atT (h:WalkE w B own gk L T):WalkT w B gk L T:=by
 obtain ⟨gv,gt,h1,_,h2,h3,_⟩:=h
 exact ⟨gv,gt,h1,h2.at,h3⟩
theorem WalkE.at (h:WalkE w B own gk L T) (hp:T.Perm L):WalkAt w B gk L:=by
 obtain ⟨gv,gt,h1,_,h2,h3,_⟩:=h
 rw [tcells_perm hp] at h3
 exact ⟨gv,gt,h1,h2.at,h3⟩
theorem WalkE.vis (h:WalkE w B own gk L T) (k:Vis w w'):WalkE w' B own gk L T:=by
 obtain ⟨gv,gt,h1,h2,h3,h4,h5⟩:=h
 exact ⟨gv,gt,k.bk h1 (by decide) (by decide),h2,h3.vis k,k.bk h4 (by decide) (by decide),h5⟩
theorem WalkE.far (h:WalkE w B own gk L T) {H:Nat→Prop} (k:Keep H w w') (hH:∀b,H b→own b≠2∧own b < 16):WalkE w' B own gk L T:=by
 obtain ⟨gv,gt,h1,h2,h3,h4,h5⟩:=h
 exact ⟨gv,gt,k.bk h1 (fun f=>by have:=hH _ f;omega),h2,h3.far k hH,k.bk h4 (fun f=>by have:=hH _ f;omega),h5⟩
theorem WalkE.paint (h:WalkE w B own gk L T) (h1:∀b,b < w.heap.size→2≤own b→own' b=own b) (h2:∀b,own' b≠0→B≤b∧b < w.heap.size):WalkE w B own' gk L T:=by
 obtain ⟨gv,gt,g1,g2,g3,g4,g5⟩:=h
 exact ⟨gv,gt,g1,by rw [h1 _ g1.lt (by omega)];exact g2,g3.paint h1 h2,g4,by rw [h1 _ g4.lt (by omega)];exact g5⟩
theorem WalkE.tally {T':List Nat} (h:WalkE w B own gk L T) (hp:T.Perm T'):WalkE w B own gk L T':=by
 obtain ⟨gv,gt,g1,g2,g3,g4,g5⟩:=h
 rw [tcells_perm hp] at g4
 exact ⟨gv,gt,g1,g2,g3,g4,g5⟩
theorem WaveE.bnd (h:WaveE w B own gk L):∀b,own b≠0→B≤b∧b < w.heap.size:=by
 obtain ⟨S,v,h⟩:=h
 exact h.bnd
theorem WalkE.bnd (h:WalkE w B own gk L T):∀b,own b≠0→B≤b∧b < w.heap.size:=by
 obtain ⟨gv,gt,g1,g2,g3,g4,g5⟩:=h
 exact g3.bnd
end
structure Grew (w w':World) (own own':Nat→Nat):Prop where
 old:∀b,b < w.heap.size→own' b=own b
 new:∀b,w.heap.size≤b→own' b≠1
 keep:Keep (fun b=>own b=2∨16≤own b) w w'
theorem Grew.refl {w:World} {own:Nat→Nat} (h:∀b,own b≠0→b < w.heap.size):Grew w w own own:=⟨fun _ _=>rfl,fun b hb e=>by have:=h b (by omega);omega,Keep.refl _ _⟩
theorem Grew.trans {w w1 w':World} {own own1 own':Nat→Nat} (h:Grew w w1 own own1) (k:Grew w1 w' own1 own'):Grew w w' own own':=by
 have hs:=h.keep.size
 refine ⟨fun b hb=>(k.old b (by omega)).trans (h.old b hb),fun b hb=>?_,h.keep.trans' k.keep fun b hb f=>by rw [←h.old b hb];exact f⟩
 by_cases c:b < w1.heap.size
 · rw [k.old b c]
   exact h.new b hb
 · exact k.new b (by omega)
theorem Grew.of_vb {B:Nat} {w w':World} {own:Nat→Nat} (k:Keep (fun b=>own b=2∨16≤own b) w w') (h:∀b,own b≠0→b < w.heap.size):Grew w w' own own:=⟨fun _ _=>rfl,fun b hb e=>by have:=h b (by omega);omega,k⟩
theorem WalkPut_any (B gk:Nat) (own:Nat→Nat) (L T:List Nat) (k s:Nat) (w:World) (h:WalkE w B own gk L T) (hs:s < 257) (hk:k≤L.length) (hL:∀x∈L,x < 257) (hn:L.length≤127):
 Calls Tryz.prog 61 #[.pointer (some ⟨gk,0,none⟩),.int .i64 (k:Int),.int .i64 (s:Int)] w fun e w'=>e=.returned (.tuple #[])∧∃own',WalkE w' B own' gk (insN L k s) T∧Grew w w' own own':=by
 obtain ⟨gv,gt,h1,h2,h3,h4,h5⟩:=h
 have c0:w.cell? ⟨gk,0,none⟩=some (.pointer (some ⟨gv,0,none⟩)):=(h1.cell 0).trans rfl
 have hgk:=h1.lt
 have hgv2:own gv=2:=by obtain ⟨S,v,h⟩:=h3;exact h.base.2
 have hgkv:gk≠gv:=by obtain ⟨S,v,h⟩:=h3;exact Bk.ne h1 h.blk (by decide)
 have hgtv:gt≠gv:=by obtain ⟨S,v,h⟩:=h3;exact Bk.ne h4 h.blk (by decide)
 have H1:=lhd h1
 have H3:=lhd h3
 have H4:=lhd h4
 clear h1 h3 h4
 go_enter Tryz.func61,Tryz.ntmps61
 go_wp2_with fail
 refine (WaveInsert_any B gv own L k s w H3.out hs hk hL hn).mono ?_
 rintro e w1 ⟨rfl,own',hw1,ho1,ho2,hk1⟩
 have hb1:=hk1.bk H1.out (fun f=>by rcases f with f | f;exact hgkv f;omega)
 have ht1:=hk1.bk H4.out (fun f=>by rcases f with f | f;exact hgtv f;omega)
 have hg:Grew w w1 own own':=⟨ho1,ho2,hk1.mono fun b _ f=>by rcases f with f | f;left;rw [f,hgv2];right;exact f⟩
 have HG:=lhd hg
 have hE:WalkE w1 B own' gk (insN L k s) T:=⟨gv,gt,hb1,by rw [ho1 _ hgk];exact h2,hw1,ht1,by rw [ho1 _ H4.out.lt];exact h5⟩
 have HE:=lhd hE
 clear hw1 ho1 ho2 hk1 hb1 ht1 hg hE c0
 go_wp2_with fail
 go_end0
 exact ⟨rfl,own',HE.out,HG.out⟩
theorem WalkCut_any (B gk:Nat) (own:Nat→Nat) (L T:List Nat) (k s:Nat) (w:World) (h:WalkE w B own gk L T) (hks:L[k]?=some s) (hL:∀x∈L,x < 257) (hn:L.length≤128):
 Calls Tryz.prog 69 #[.pointer (some ⟨gk,0,none⟩),.int .i64 (k:Int)] w fun e w'=>e=.returned (.int .i64 (s:Int))∧∃own',WalkE w' B own' gk (delN L k) T∧Grew w w' own own':=by
 obtain ⟨gv,gt,h1,h2,h3,h4,h5⟩:=h
 have c0:w.cell? ⟨gk,0,none⟩=some (.pointer (some ⟨gv,0,none⟩)):=(h1.cell 0).trans rfl
 have hgk:=h1.lt
 have hgv2:own gv=2:=by obtain ⟨S,v,h⟩:=h3;exact h.base.2
 have hgkv:gk≠gv:=by obtain ⟨S,v,h⟩:=h3;exact Bk.ne h1 h.blk (by decide)
 have hgtv:gt≠gv:=by obtain ⟨S,v,h⟩:=h3;exact Bk.ne h4 h.blk (by decide)
 have H1:=lhd h1
 have H3:=lhd h3
 have H4:=lhd h4
 have Hks:=lhd hks
 clear h1 h3 h4 hks
 go_enter Tryz.func69,Tryz.ntmps69
 go_wp2_with fail
 refine (WaveDelete_any B gv own L k s w H3.out Hks.out hL hn).mono ?_
 rintro e w1 ⟨rfl,own',hw1,ho1,ho2,hk1⟩
 have hb1:=hk1.bk H1.out (fun f=>by rcases f with f | f;exact hgkv f;omega)
 have ht1:=hk1.bk H4.out (fun f=>by rcases f with f | f;exact hgtv f;omega)
 have hg:Grew w w1 own own':=⟨ho1,ho2,hk1.mono fun b _ f=>by rcases f with f | f;left;rw [f,hgv2];right;exact f⟩
 have HG:=lhd hg
 have hE:WalkE w1 B own' gk (delN L k) T:=⟨gv,gt,hb1,by rw [ho1 _ hgk];exact h2,hw1,ht1,by rw [ho1 _ H4.out.lt];exact h5⟩
 have HE:=lhd hE
 clear hw1 ho1 ho2 hk1 hb1 ht1 hg hE c0
 go_wp2_with fail
 go_ret
 exact ⟨rfl,own',HE.out,HG.out⟩
theorem WalkChange_any (B gk:Nat) (own:Nat→Nat) (L T:List Nat) (k s0 s:Nat) (w:World) (h:WalkE w B own gk L T) (hks:L[k]?=some s0) (hs:s < 257) (hL:∀x∈L,x < 257) (hn:L.length≤128):
 Calls Tryz.prog 59 #[.pointer (some ⟨gk,0,none⟩),.int .i64 (k:Int),.int .i64 (s:Int)] w fun e w'=>e=.returned (.tuple #[])∧∃own',WalkE w' B own' gk (L.set k s) T∧Grew w w' own own':=by
 have hkl:=(List.getElem?_eq_some_iff.1 hks).1
 have hdl:=delN_len L hkl
 have hset:insN (delN L k) k s=L.set k s:=by
  apply List.ext_getElem?
  intro j
  rw [insN_get _ _ (by omega),List.getElem?_set]
  by_cases c1:j < k
  · rw [if_pos c1,if_neg (by omega),delN_get _ hkl,if_pos c1]
  · rw [if_neg c1]
    by_cases c2:j=k
    · subst c2
      rw [if_pos rfl,if_pos rfl,if_pos hkl]
    · rw [if_neg c2,if_neg (fun e=>c2 e.symm),delN_get _ hkl,if_neg (by omega),show j - 1+1=j by omega]
 have H:=lhd h
 have Hks:=lhd hks
 have Hset:=lhd hset
 clear h hks hset
 go_enter Tryz.func59,Tryz.ntmps59
 go_wp2_with fail
 refine (WalkCut_any B gk own L T k s0 w H.out Hks.out hL hn).mono ?_
 rintro e w1 ⟨rfl,own1,h1,g1⟩
 have H1:=lhd h1
 have G1:=lhd g1
 clear h1 g1
 go_wp2_with fail
 refine (WalkPut_any B gk own1 (delN L k) T k s w1 H1.out hs (by omega) (delN_lt hL) (by omega)).mono ?_
 rintro e w2 ⟨rfl,own2,h2,g2⟩
 rw [Hset.out] at h2
 have H2:=lhd h2
 have G2:=lhd (G1.out.trans g2)
 clear h2 g2
 go_wp2_with fail
 go_end0
 exact ⟨rfl,own2,H2.out,G2.out⟩
theorem WalkCountIn_any (B gk:Nat) (own:Nat→Nat) (L T:List Nat) (s:Nat) (w:World) (h:WalkE w B own gk L T) (hs:s < 257) (hT:T.length≤1000):
 Calls Tryz.prog 62 #[.pointer (some ⟨gk,0,none⟩),.int .i64 (s:Int),.int .i64 1] w fun e w'=>e=.returned (.tuple #[])∧WalkE w' B own gk L (T++ [s])∧Grew w w' own own:=by
 have hbnd:=h.bnd
 obtain ⟨gv,gt,h1,h2,h3,h4,h5⟩:=h
 have c1:w.cell? ⟨gk,1,none⟩=some (.pointer (some ⟨gt,0,none⟩)):=(h1.cell 1).trans rfl
 have hgk:=h1.lt
 have hgkt:gk≠gt:=Bk.ne h1 h4 (by decide)
 have H1:=lhd h1
 have H3:=lhd h3
 have H4:=lhd h4
 clear h1 h3 h4
 go_enter Tryz.func62,Tryz.ntmps62
 go_wp2_with fail
 refine (TallyAdd_any gt T s w H4.out hs hT).mono ?_
 rintro e w1 ⟨rfl,ht,hk⟩
 have hb1:=hk.bk H1.out hgkt
 have hw1:WaveE w1 B own gv L:=by
  obtain ⟨S,v,h⟩:=H3.out
  refine ⟨S,v,hk.bk h.blk (Bk.ne h.blk H4.out (by decide)),h.base,fun lv hl=>?_,fun b hb=>⟨(h.bnd b hb).1,Nat.lt_of_lt_of_le (h.bnd b hb).2 hk.size⟩⟩
  obtain ⟨G,g1,g2,g3⟩:=h.rows lv hl
  exact ⟨G,own_same g1 fun b cs _ hk'=>hk.bk hk' (Bk.ne hk' H4.out (by decide)),g2,fun p hp=>(g3 p hp).keep hk fun b t cs hin hk' _ e=>by
   have e':b=gt:=e
   subst e'
   rw [(bk_inj hk' H4.out).1] at hin
   exact absurd hin (by decide)⟩
 have hE:WalkE w1 B own gk L (T++ [s]):=⟨gv,gt,hb1,h2,hw1,ht,h5⟩
 have hg:Grew w w1 own own:=Grew.of_vb (B:=B) (hk.mono fun b _ e=>by left;rw [show b=gt from e,h5]) fun b hb=>(hbnd b hb).2
 have HE:=lhd hE
 have HG:=lhd hg
 clear ht hk hb1 hw1 hE hg
 go_wp2_with fail
 go_end0
 exact ⟨rfl,HE.out,HG.out⟩
theorem row_zero {t:List UInt8} {rs:List Nat} (h:IsSuf (symL t) rs):rs[0]?=some t.length:=by
 obtain ⟨e1,e2,e3⟩:=symL_end t
 obtain ⟨j,hj,ej⟩:=h.row (p:=t.length) (by omega)
 rcases Nat.eq_zero_or_pos j with h0 | h0
 · subst h0
   rw [List.getElem?_eq_getElem hj,ej]
 · exfalso
   have h1:=List.pairwise_iff_getElem.1 h.sorted 0 j (by omega) hj h0
   rw [ej] at h1
   have hq:=h.lt (List.getElem_mem (show 0 < rs.length by omega))
   have hne:rs[0]'(by omega)≠t.length:=fun e=>by
    exact (List.pairwise_iff_getElem.1 h.nodup 0 j (by omega) hj h0) (by rw [e,ej])
   rw [sufLt_step,aN_getD (by omega:t.length < (symL t).length),aN_getD hq,e2] at h1
   have:=e3 (rs[0]'(by omega)) (by omega)
   rcases h1 with h1 | h1
   · omega
   · omega
theorem row_inj {l rs:List Nat} (h:IsSuf l rs) {i j p:Nat} (hi:rs[i]?=some p) (hj:rs[j]?=some p):i=j:=by
 obtain ⟨hi1,hi2⟩:=List.getElem?_eq_some_iff.1 hi
 obtain ⟨hj1,hj2⟩:=List.getElem?_eq_some_iff.1 hj
 rcases Nat.lt_trichotomy i j with h1 | h1 | h1
 · exact absurd (by rw [hi2,hj2]) (List.pairwise_iff_getElem.1 h.nodup i j hi1 hj1 h1)
 · exact h1
 · exact absurd (by rw [hi2,hj2]) (List.pairwise_iff_getElem.1 h.nodup j i hj1 hi1 h1)
end Go.Proofs.YtipaccakmndkgaaGreatDoor
namespace Go.Proofs.YtipaccakmndkgaaGreatDoor
open Go.RowKit Go.Shelf
def PermR (w:World) (gp R P:Nat) (pr:List (Nat×Nat)):Prop:=
 ∃B ga vl vo vt vf ks C tk fr,PermAt w B gp ga vl vo vt vf R P ks C tk fr∧ks.Pairwise (fun a b=>rowK C a < rowK C b)∧C.length≤1000∧ks.length≤1000∧pr=ks.map fun k=>(rowK C k,posK C k)
theorem PermR.le {w:World} {gp R P:Nat} {pr:List (Nat×Nat)} (h:PermR w gp R P pr):pr.length≤1000:=by
 obtain ⟨B,ga,vl,vo,vt,vf,ks,C,tk,fr,h1,h2,h3,h4,rfl⟩:=h
 rw [List.length_map]
 exact h4
theorem PermR.vis {w w':World} {gp R P:Nat} {pr:List (Nat×Nat)} (h:PermR w gp R P pr) (k:Vis w w'):PermR w' gp R P pr:=by
 obtain ⟨B,ga,vl,vo,vt,vf,ks,C,tk,fr,h1,h2⟩:=h
 exact ⟨B,ga,vl,vo,vt,vf,ks,C,tk,fr,h1.vis k,h2⟩
theorem PermR.lt {w:World} {gp R P:Nat} {pr:List (Nat×Nat)} (h:PermR w gp R P pr):gp < w.heap.size:=by
 obtain ⟨B,ga,vl,vo,vt,vf,ks,C,tk,fr,h1,h2⟩:=h
 exact h1.blk.lt
theorem PermAllG_any (B gp ga:Nat) (vl vo vt vf:Value) (R P:Nat) (ks:List Nat) (C:List (Nat×Nat)) (tk:List Bool) (fr:List Nat) (w:World) (h:PermAt w B gp ga vl vo vt vf R P ks C tk fr) (hC:C.length≤1000) (hK:ks.length≤1000):
 Calls Tryz.prog 166 #[.pointer (some ⟨gp,0,none⟩)] w (PAllPost w (ks.map fun k=>(rowK C k,posK C k))):=by
 obtain ⟨i0,hi0,hz0,hz1,hz2⟩:=info_parts pair_info
 have ho:=h.orow
 obtain ⟨A2,c2,rfl,_,_⟩:=own_shape ho
 obtain ⟨A1,c1,rfl,_,_⟩:=own_shape h.lrow
 have c1':w.cell? ⟨gp,1,none⟩=some (.slice A1 C.length c1):=(h.blk.cell 1).trans rfl
 have c2':w.cell? ⟨gp,2,none⟩=some (.slice A2 ks.length c2):=(h.blk.cell 2).trans rfl
 have hgp:=h.blk.lt
 obtain ⟨N,hN⟩:∃n,C.length=n:=⟨_,rfl⟩
 obtain ⟨n,hn⟩:∃n,ks.length=n:=⟨_,rfl⟩
 obtain ⟨pr,hpr⟩:∃pr,(ks.map fun k=>(rowK C k,posK C k))=pr:=⟨_,rfl⟩
 have hprl:pr.length=n:=by rw [←hpr,List.length_map,hn]
 rw [hpr]
 have H:=lhd h
 have Hn:=lhd hn
 have HN:=lhd hN
 have Hpr:=lhd hpr
 have Hprl:=lhd hprl
 rw [hN] at c1' hC
 rw [hn] at c2' hK
 clear h ho hn hN hpr hprl
 unfold PAllPost
 go_enter Tryz.func166,Tryz.ntmps166
 go_wp2_with fail
 go_loopw [3,13] (fun v i wr=>∃k:Nat,k≤n∧i=.int .i64 (k:Int)∧wr.ownsRow w.heap.size 159 2 v k (pairsL (pr.take k))∧Below w.heap.size w wr) (fun _ i _=>n -(intOf i).toNat)
 case atStart=>exact ⟨0,Nat.zero_le _,rfl,World.ownsRow_nil _ _ _ _,Below.refl _ _⟩
 case round=>
  obtain ⟨k,hk,rfl,hown,hb⟩:=hrel
  have hsz:=hb.size
  by_cases hlt:k < n
  · have hkn:k < ks.length:=by rw [Hn.out];exact hlt
    obtain ⟨j,hj⟩:∃j,ks[k]?=some j:=⟨_,List.getElem?_eq_getElem hkn⟩
    have hjC:j < C.length:=H.out.lt j (List.mem_of_getElem? hj)
    have hjN:j < N:=by rw [←HN.out];exact hjC
    have hp:=H.out.below hb
    have ho2:=hp.orow
    obtain ⟨g2,k2,e2,_,hg2⟩:=World.ownsRow.form ho2 (by omega)
    obtain ⟨g1,k1,e1,_,hg1⟩:=World.ownsRow.form hp.lrow (by omega)
    injection e2 with e2a _ _
    injection e1 with e1a _ _
    subst e2a
    subst e1a
    have d2:wr.cell? ⟨g2,k,none⟩=some (.int .i64 (j:Int)):=(World.ownsRow.cellAt ho2 k (by omega)).trans (by rw [List.getElem?_map,hj];rfl)
    obtain ⟨p0,p1⟩:=pairsL_get C j hjC
    have d0:wr.cell? ⟨g1,j*2,none⟩=_:=(World.ownsRow.cellAt hp.lrow (j*2) (by omega)).trans p0
    have d1:wr.cell? ⟨g1,j*2+1,none⟩=_:=(World.ownsRow.cellAt hp.lrow (j*2+1) (by omega)).trans p1
    have d3:wr.cell? ⟨gp,1,none⟩=some (.slice (some ⟨g1,0,none⟩) N c1):=(hb.cell (p:=⟨gp,1,none⟩) hgp).trans c1'
    obtain ⟨a1,ha1⟩:∃x,rowK C j=x:=⟨_,rfl⟩
    obtain ⟨a2,ha2⟩:∃x,posK C j=x:=⟨_,rfl⟩
    have hnext:pairsL (pr.take (k+1))=pairsL (pr.take k)++ [.int .i64 (a1:Int),.int .i64 (a2:Int)]:=by
        have hc:pr[k]?=some (a1,a2):=by rw [←Hpr.out,List.getElem?_map,hj,←ha1,←ha2];rfl
        rw [List.take_add_one,hc]
        show pairsL (pr.take k++ [(a1,a2)])=_
        rw [pairsL_snoc]
        rfl
    rw [ha1] at d0
    rw [ha2] at d1
    have Hown:=lhd hown
    have Hb:=lhd hb
    have Hnext:=lhd hnext
    clear hown hb hnext hp ho2 p0 p1 c1' c2' ha1 ha2 hj hjC hkn
    go_wp2_with (at_builtin;refine wpList_push _ rfl (.tmp 17) (.tmp 25) _ rfl w.heap.size 159 i0 (.agg #[.int .i64 0,.int .i64 0]) 2 16 Tryz.underlying131 hi0 hz0 hz1 hz2 rfl (by decide) _ k _ rfl Hown.out rfl rfl (by simp [Value.oneCell']) (by unfold maxLen;omega) (by omega) hsz ?_;intro v5 w5 hown5 hg5 hs5 hat5)
    have hb5:=below_grown Hb.out Hown.out hg5 hsz
    have Hb5:=lhd hb5
    clear hb5 hg5 hat5
    exact ⟨⟨v5,_,_,⟨k+1,by omega,by go_num,by rw [Hnext.out];exact hown5,Hb5.out⟩,rfl,rfl,rfl⟩,by simp [intOf];omega⟩
  · obtain rfl:k=n:=by omega
    have htk:pr.take k=pr:=List.take_of_length_le (by rw [Hprl.out];exact Nat.le_refl _)
    rw [htk] at hown
    obtain ⟨A9,c9,rfl,hm9⟩:=made_of_own hown
    have Hm9:=lhd hm9
    have Hb:=lhd hb
    clear hown hm9 hb
    go_wp2_with fail
    go_ret
    exact ⟨A9,c9,by rw [Hprl.out];rfl,by rw [Hprl.out];exact Hm9.out,Hb.out⟩
theorem PermAllR_any (gp R P:Nat) (pr:List (Nat×Nat)) (w:World) (h:PermR w gp R P pr):
 Calls Tryz.prog 166 #[.pointer (some ⟨gp,0,none⟩)] w (PAllPost w pr):=by
 obtain ⟨B,ga,vl,vo,vt,vf,ks,C,tk,fr,h1,h2,h3,h4,rfl⟩:=h
 exact PermAllG_any B gp ga vl vo vt vf R P ks C tk fr w h1 h3 h4
def LeastOk (pr:List (Nat×Nat)) (pos:Nat) (z:Int):Prop:=(z=-1∧∀x∈pr,x.2 < pos)∨∃x∈pr,z=((x.2:Nat):Int)∧pos≤x.2∧∀y∈pr,pos≤y.2→x.2≤y.2
theorem least_snoc {l:List (Nat×Nat)} {pos:Nat} {z:Int} (h:LeastOk l pos z) (a1 a2:Nat):LeastOk (l++(some (a1,a2)).toList) pos (if pos≤a2∧(z < 0∨(a2:Int) < z) then (a2:Int) else z):=by
 have hmem:∀y:Nat×Nat,y∈l++(some (a1,a2)).toList↔y∈l∨y=(a1,a2):=fun y=>by simp
 rcases h with ⟨rfl,h1⟩|⟨x,hx,rfl,h1,h2⟩
 · by_cases c:pos≤a2
   · rw [if_pos ⟨c,.inl (by omega)⟩]
     refine .inr ⟨(a1,a2),(hmem _).2 (.inr rfl),rfl,c,fun y hy hp=>?_⟩
     rcases (hmem y).1 hy with hy | rfl
     · have:=h1 y hy
       omega
     · exact Nat.le_refl _
   · rw [if_neg (fun e=>c e.1)]
     refine .inl ⟨rfl,fun y hy=>?_⟩
     rcases (hmem y).1 hy with hy | rfl
     · exact h1 y hy
     · show a2 < pos
       omega
 · by_cases c:pos≤a2∧((x.2:Int) < 0∨(a2:Int) < (x.2:Int))
   · rw [if_pos c]
     have c2:a2 < x.2:=by omega
     refine .inr ⟨(a1,a2),(hmem _).2 (.inr rfl),rfl,c.1,fun y hy hp=>?_⟩
     rcases (hmem y).1 hy with hy | rfl
     · have:=h2 y hy hp
       show a2≤_
       omega
     · exact Nat.le_refl _
   · rw [if_neg c]
     refine .inr ⟨x,(hmem _).2 (.inl hx),rfl,h1,fun y hy hp=>?_⟩
     rcases (hmem y).1 hy with hy | rfl
     · exact h2 y hy hp
     · have hp':pos≤a2:=hp
       show x.2≤a2
       omega
def LeastPost (w:World) (C:List (Nat×Nat)) (pos:Nat) (e:Ending) (w':World):Prop:=∃z,e=.returned (.int .i64 z)∧LeastOk C pos z∧Below w.heap.size w w'
theorem PermNextG_any (gp R P:Nat) (C:List (Nat×Nat)) (pos:Nat) (w:World) (h:PermR w gp R P C):
 Calls Tryz.prog 127 #[.pointer (some ⟨gp,0,none⟩),.int .i64 (pos:Int)] w (LeastPost w C pos):=by
 have hall:=PermAllR_any gp R P C w h
 have hC:=h.le
 unfold PAllPost at hall
 obtain ⟨n,hn⟩:∃n,C.length=n:=⟨_,rfl⟩
 rw [hn] at hall hC
 have Hn:=lhd hn
 clear h hn
 unfold LeastPost
 go_enter Tryz.func127,Tryz.ntmps127
 go_wp2_with fail
 refine hall.mono ?_
 rintro e w1 ⟨A,c,rfl,hm,hb1⟩
 clear hall
 have Hm:=lhd hm
 have Hb1:=lhd hb1
 clear hm hb1
 go_wp2_with fail
 go_loopw [5,11] (fun v i wr=>∃(k:Nat) (z:Int),k≤n∧i=.int .i64 (k:Int)∧v=.int .i64 z∧LeastOk (C.take k) pos z∧Below w1.heap.size w1 wr) (fun _ i _=>n -(intOf i).toNat)
 case atStart=>exact ⟨0,-1,Nat.zero_le _,rfl,rfl,.inl ⟨rfl,fun x hx=>by simp at hx⟩,Below.refl _ _⟩
 case round=>
  obtain ⟨k,z,hk,rfl,rfl,hz,hb⟩:=hrel
  have hsz:=hb.size
  by_cases hlt:k < n
  · have hkC:k < C.length:=by rw [Hn.out];exact hlt
    have hr:=Hm.out.rd.below (hb.mono (B:=w1.heap.size) (Nat.le_refl _))
    obtain ⟨b,off,rfl,hbb,hcell⟩:=hr.2 (by omega)
    obtain ⟨p0,p1⟩:=pairsL_get C k hkC
    have d0:=hcell _ _ p0
    have d1:=hcell _ _ p1
    obtain ⟨a1,ha1⟩:∃x,rowK C k=x:=⟨_,rfl⟩
    obtain ⟨a2,ha2⟩:∃x,posK C k=x:=⟨_,rfl⟩
    rw [ha1] at d0
    rw [ha2,←Nat.add_assoc] at d1
    have hcc:C[k]?=some (a1,a2):=by
        rw [←ha1,←ha2]
        unfold rowK posK
        rw [List.getD_eq_getElem?_getD,List.getElem?_eq_getElem hkC]
        rfl
    have hnx:∀y:Int,y=(if pos≤a2∧(z < 0∨(a2:Int) < z) then (a2:Int) else z)→LeastOk (C.take (k+1)) pos y:=fun y hy=>by
        rw [List.take_add_one,hcc,hy]
        exact least_snoc hz a1 a2
    have Hnx:=lhd hnx
    have Hb:=lhd hb
    have hb2:Below w1.heap.size w1 (wr.alloc (.cells #[.int .i64 (a1:Int),.int .i64 (a2:Int)] 159)):=hb.alloc hsz _
    have Hb2:=lhd hb2
    clear hz hb hr hcell p0 p1 ha1 ha2 hb2 hnx hcc
    by_cases h1:pos≤a2
    · have n1:decide (pos≤a2)=true:=decide_eq_true h1
      by_cases h2:z < 0
      · have hok:LeastOk (C.take (k+1)) pos (a2:Int):=Hnx.out (a2:Int) (by rw [if_pos ⟨h1,.inl h2⟩])
        have Hok:=lhd hok
        clear hok
        go_wp2_with fail
        go_roundw
        case rel=>exact ⟨k+1,(a2:Int),by omega,by go_num,by first | rfl | trivial,Hok.out,Hb2.out⟩
        case measure=>simp [intOf];omega
      · have n2:decide (z < 0)=false:=decide_eq_false h2
        by_cases h3:(a2:Int) < z
        · have hok:LeastOk (C.take (k+1)) pos (a2:Int):=Hnx.out (a2:Int) (by rw [if_pos ⟨h1,.inr h3⟩])
          have Hok:=lhd hok
          clear hok
          go_wp2_with fail
          go_roundw
          case rel=>exact ⟨k+1,(a2:Int),by omega,by go_num,by first | rfl | trivial,Hok.out,Hb2.out⟩
          case measure=>simp [intOf];omega
        · have n3:decide ((a2:Int) < z)=false:=decide_eq_false h3
          have hok:LeastOk (C.take (k+1)) pos z:=Hnx.out z (by rw [if_neg (by omega)])
          have Hok:=lhd hok
          clear hok
          go_wp2_with fail
          go_roundw
          case rel=>exact ⟨k+1,z,by omega,by go_num,by first | rfl | trivial,Hok.out,Hb2.out⟩
          case measure=>simp [intOf];omega
    · have n1:decide (pos≤a2)=false:=decide_eq_false h1
      have hok:LeastOk (C.take (k+1)) pos z:=Hnx.out z (by rw [if_neg (by omega)])
      have Hok:=lhd hok
      clear hok
      go_wp2_with fail
      go_roundw
      case rel=>exact ⟨k+1,z,by omega,by go_num,by first | rfl | trivial,Hok.out,Hb2.out⟩
      case measure=>simp [intOf];omega
  · obtain rfl:k=n:=by omega
    have hbW:=Hb1.out.trans (hb.mono Hb1.out.size)
    have HbW:=lhd hbW
    have htk:C.take k=C:=List.take_of_length_le (by rw [Hn.out];exact Nat.le_refl _)
    rw [htk] at hz
    have Hz:=lhd hz
    clear hbW hz hb htk
    go_wp2_with fail
    go_ret
    exact ⟨z,rfl,Hz.out,HbW.out⟩
def RowPostG (w:World) (ks:List Nat) (C:List (Nat×Nat)) (pos:Nat) (e:Ending) (w':World):Prop:=∃k,k∈ks∧posK C k=pos∧e=.returned (.int .i64 ((rowK C k:Nat):Int))∧Below w.heap.size w w'
theorem PermRowG_any (B gp ga:Nat) (vl vo vt vf:Value) (R P:Nat) (ks:List Nat) (C:List (Nat×Nat)) (tk:List Bool) (fr:List Nat) (pos:Nat) (w:World) (h:PermAt w B gp ga vl vo vt vf R P ks C tk fr) (hk:ks.length≤1099511627776) (hC:C.length≤1099511627776) (hex:∃k∈ks,posK C k=pos):
 Calls Tryz.prog 128 #[.pointer (some ⟨gp,0,none⟩),.int .i64 (pos:Int)] w (RowPostG w ks C pos):=by
 have hhas:=PermHas_any B gp ga vl vo vt vf R P ks C tk fr pos w h hk
 obtain ⟨q,x,hq,hx1,hx2⟩:=firstI_some (p:=fun k=>decide (posK C k=pos)) (l:=ks) (by obtain ⟨k,hk1,hk2⟩:=hex;exact ⟨k,hk1,decide_eq_true hk2⟩) 0
 rw [hq,Nat.zero_add] at hhas
 have hx3:posK C x=pos:=of_decide_eq_true hx2
 have hqn:q < ks.length:=(List.getElem?_eq_some_iff.1 hx1).1
 have hxC:x < C.length:=h.lt x (List.mem_of_getElem? hx1)
 obtain ⟨g,cap,hvo,hnc,hgl⟩:=World.ownsRow.form h.orow (by omega)
 obtain ⟨g2,cap2,hvl,hnc2,hgl2⟩:=World.ownsRow.form h.lrow (by omega)
 subst hvo
 subst hvl
 have hpair:=(pairsL_get C x hxC).1
 have H:=lhd h
 have Hx1:=lhd hx1
 have Hx3:=lhd hx3
 have Hpair:=lhd hpair
 have hqI:(q:Int) < (ks.length:Int):=by omega
 have hxI:(x:Int) < (C.length:Int):=by omega
 have hq0:decide ((q:Int) < 0)=false:=by simp
 clear h hq hx1 hx2 hx3 hpair hex
 unfold RowPostG
 go_enter Tryz.func128,Tryz.ntmps128
 go_wp2_with fail
 refine hhas.mono ?_
 rintro e w1 ⟨rfl,hb1⟩
 have h1:=H.out.below hb1
 have c1:∀d,(w1.drewN d).cell? ⟨gp,1,none⟩=some (.slice (some ⟨g2,0,none⟩) C.length cap2):=fun d=>(h1.blk.cell 1).trans rfl
 have c2:∀d,(w1.drewN d).cell? ⟨gp,2,none⟩=some (.slice (some ⟨g,0,none⟩) ks.length cap):=fun d=>(h1.blk.cell 2).trans rfl
 have hgp:=h1.blk.lt
 have c3:∀d,(w1.drewN d).cell? ⟨g,q,none⟩=some (.int .i64 (x:Int)):=fun d=>(World.ownsRow.cellAt h1.orow q (by omega)).trans (by rw [List.getElem?_map,Hx1.out];rfl)
 have c4:∀d,(w1.drewN d).cell? ⟨g2,x*2,none⟩=some (.int .i64 ((rowK C x:Nat):Int)):=fun d=>(World.ownsRow.cellAt h1.lrow (x*2) (by omega)).trans Hpair.out
 have Hb1:=lhd hb1
 have hgl1:=Nat.lt_of_lt_of_le hgl hb1.size
 have hgl21:=Nat.lt_of_lt_of_le hgl2 hb1.size
 obtain ⟨pp,hpp⟩:∃pp,rowK C x=pp:=⟨_,rfl⟩
 rw [hpp] at c4
 have Hpp:=lhd hpp
 clear hhas hb1 h1 hpp
 go_wp2_with fail
 go_quiet (fail)
 go_wp2_with fail
 go_ret
 exact ⟨x,List.mem_of_getElem? Hx1.out,Hx3.out,by rw [Hpp.out];rfl,below_drewN Hb1.out _⟩
def RowPostR (w:World) (pr:List (Nat×Nat)) (pos:Nat) (e:Ending) (w':World):Prop:=∃r,(r,pos)∈pr∧e=.returned (.int .i64 (r:Int))∧Below w.heap.size w w'
theorem PermRowR_any (gp R P:Nat) (pr:List (Nat×Nat)) (pos:Nat) (w:World) (h:PermR w gp R P pr) (hex:∃x∈pr,x.2=pos):
 Calls Tryz.prog 128 #[.pointer (some ⟨gp,0,none⟩),.int .i64 (pos:Int)] w (RowPostR w pr pos):=by
 obtain ⟨B,ga,vl,vo,vt,vf,ks,C,tk,fr,h1,h2,h3,h4,rfl⟩:=h
 have hex':∃k∈ks,posK C k=pos:=by
  obtain ⟨x,hx,e⟩:=hex
  obtain ⟨k,hk,rfl⟩:=List.mem_map.1 hx
  exact ⟨k,hk,e⟩
 have hr:=PermRowG_any B gp ga vl vo vt vf R P ks C tk fr pos w h1 (by omega) (by omega) hex'
 refine hr.mono ?_
 rintro e w' ⟨k,hk,hp,rfl,hb⟩
 exact ⟨_,List.mem_map.2 ⟨k,hk,by rw [hp]⟩,rfl,hb⟩
theorem PermRowR_none (gp R P:Nat) (pr:List (Nat×Nat)) (pos:Nat) (w:World) (h:PermR w gp R P pr) (hno:∀x∈pr,x.2≠pos):
 Calls Tryz.prog 128 #[.pointer (some ⟨gp,0,none⟩),.int .i64 (pos:Int)] w fun e w'=>e=.returned (.int .i64 (-1))∧Below w.heap.size w w':=by
 obtain ⟨B,ga,vl,vo,vt,vf,ks,C,tk,fr,h1,h2,h3,h4,rfl⟩:=h
 have hhas:=PermHas_any B gp ga vl vo vt vf R P ks C tk fr pos w h1 (by omega)
 rw [firstI_none (p:=fun k=>decide (posK C k=pos)) (l:=ks) (fun k hk=>decide_eq_false (hno _ (List.mem_map.2 ⟨k,hk,rfl⟩))) 0] at hhas
 clear h1 h2 hno
 go_enter Tryz.func128,Tryz.ntmps128
 go_wp2_with fail
 refine hhas.mono ?_
 rintro e w1 ⟨rfl,hb1⟩
 have Hb1:=lhd hb1
 clear hhas hb1
 go_wp2_with fail
 go_ret
 exact ⟨rfl,Hb1.out⟩
end Go.Proofs.YtipaccakmndkgaaGreatDoor
