/- The walk of live's Row: the row of the suffix from a place on. Conditions: a text of at most 127 bytes, as New makes it; a place that is there. The walk of a text's Pos: where a row's suffix begins. Conditions: a text of at most 127 bytes, as New makes it. A walk that owns its blocks (WalkE), over a tally of its own; the walks of walk's Back, Put, Cut, Change, Count. Conditions: symbols below 257; at most 128. -/
import Derived.Test.YtipaccakmndkgaaGreatPwa21
import Derived.Test.YtipaccakmndkgaaGreatPwa31
import Derived.Test.YtipaccakmndkgaaGreatPwa32
import Derived.Test.YtipaccakmndkgaaGreatPwa13
import Derived.Test.YtipaccakmndkgaaGreatPwa30
namespace Go.Proofs.YtipaccakmndkgaaGreat
open Go.RowKit
set_option linter.unusedVariables false
set_option linter.unusedSimpArgs false
theorem row_zero {t:List UInt8} {rs:List Nat} (h:IsSuf (symL t) rs):rs[0]?=some t.length:=by
 obtain ⟨e1,e2,e3⟩:=symL_end t
 obtain ⟨j,hj,ej⟩:=h.row (p:=t.length) (by omega)
 rcases Nat.eq_zero_or_pos j with h0 | h0
 · subst h0
   rw [List.getElem?_eq_getElem hj,ej]
 · exfalso
   have h1:=List.pairwise_iff_getElem.1 h.sorted 0 j (by omega) hj h0
   rw [ej] at h1
   have hq:=h.lt (List.getElem_mem (show 0 < rs.length by omega))
   have hne:rs[0]'(by omega)≠t.length:=fun e=>by
    exact (List.pairwise_iff_getElem.1 h.nodup 0 j (by omega) hj h0) (by rw [e,ej])
   rw [sufLt_step,aN_getD (by omega:t.length < (symL t).length),aN_getD hq,e2] at h1
   have:=e3 (rs[0]'(by omega)) (by omega)
   rcases h1 with h1 | h1
   · omega
   · omega
theorem row_inj {l rs:List Nat} (h:IsSuf l rs) {i j p:Nat} (hi:rs[i]?=some p) (hj:rs[j]?=some p):i=j:=by
 obtain ⟨hi1,hi2⟩:=List.getElem?_eq_some_iff.1 hi
 obtain ⟨hj1,hj2⟩:=List.getElem?_eq_some_iff.1 hj
 rcases Nat.lt_trichotomy i j with h1 | h1 | h1
 · exact absurd (by rw [hi2,hj2]) (List.pairwise_iff_getElem.1 h.nodup i j hi1 hj1 h1)
 · exact h1
 · exact absurd (by rw [hi2,hj2]) (List.pairwise_iff_getElem.1 h.nodup j i hj1 hi1 h1)
end Go.Proofs.YtipaccakmndkgaaGreat
namespace Go.Proofs.YtipaccakmndkgaaGreat
open Go.RowKit
set_option linter.unusedVariables false
set_option linter.unusedSimpArgs false
end Go.Proofs.YtipaccakmndkgaaGreat
namespace Go.Proofs.YtipaccakmndkgaaGreat
open Go.RowKit
set_option linter.unusedVariables false
set_option linter.unusedSimpArgs false
def WalkT (w:World) (B gk:Nat) (L T:List Nat):Prop:=
 ∃gv gt,Bk w gk 55 #[.pointer (some ⟨gv,0,none⟩),.pointer (some ⟨gt,0,none⟩)]∧WaveAt w B gv L∧Bk w gt 124 (tcells T)
theorem WalkT.vis {w w':World} {B gk:Nat} {L T:List Nat} (h:WalkT w B gk L T) (k:Vis w w'):WalkT w' B gk L T:=by
 obtain ⟨gv,gt,h1,h2,h3⟩:=h
 exact ⟨gv,gt,k.bk h1 (by decide) (by decide),h2.vis k,k.bk h3 (by decide) (by decide)⟩
def narT (L T:List Nat) (s k:Nat):Nat:=T.countP (fun x=>decide (x < s))+(L.take k).count s
set_option maxRecDepth 100000 in
theorem WalkLenT_any (B gk:Nat) (L T:List Nat) (w:World) (h:WalkT w B gk L T):
 Calls Tryz.prog 49 #[.pointer (some ⟨gk,0,none⟩)] w fun e w'=>e=.returned (.int .i64 (L.length:Int))∧w=w':=by
 obtain ⟨gv,gt,h1,h2,h3⟩:=h
 have c0:=h1.cell 0
 clear h1 h3
 go_enter Tryz.func49,Tryz.ntmps49
 go_wp2_with fail
 refine (WaveLen_any B gv L _ h2).mono ?_
 rintro e w' ⟨rfl,rfl⟩
 go_wp2_with fail
 go_ret
 exact ⟨rfl,rfl⟩
set_option maxRecDepth 100000 in
theorem WalkBelowT_any (B gk:Nat) (L T:List Nat) (s:Nat) (w:World) (h:WalkT w B gk L T) (hs:s < 257) (hl:T.length≤1000):
 Calls Tryz.prog 87 #[.pointer (some ⟨gk,0,none⟩),.int .i64 (s:Int)] w fun e w'=>e=.returned (.int .i64 ((T.countP (fun x=>decide (x < s)):Nat):Int))∧Below w.heap.size w w':=by
 obtain ⟨gv,gt,h1,h2,h3⟩:=h
 have c1:=h1.cell 1
 clear h1 h2
 have H3:=Lib.hid h3
 clear h3
 go_enter Tryz.func87,Tryz.ntmps87
 go_wp2_with fail
 refine (TallyBelow_any gt T s _ H3.out hs hl).mono ?_
 rintro e w' ⟨rfl,hb⟩
 obtain ⟨q,hq⟩:∃q,T.countP (fun x=>decide (x < s))=q:=⟨_,rfl⟩
 rw [hq]
 go_wp2_with fail
 go_ret
 exact ⟨by rw [hq];rfl,hb⟩
set_option maxRecDepth 100000 in
theorem WalkIsT_any (B gk:Nat) (L T:List Nat) (i:Nat) (w:World) (h:WalkT w B gk L T) (hi:i < L.length):
 Calls Tryz.prog 86 #[.pointer (some ⟨gk,0,none⟩),.int .i64 (i:Int)] w fun e w'=>e=.returned (.bool true)∧w=w':=by
 obtain ⟨n,hn⟩:∃n,L.length=n:=⟨_,rfl⟩
 rw [hn] at hi
 have hiI:(i:Int) < (n:Int):=by omega
 have Hn:=Lib.hid hn
 have H:=Lib.hid h
 clear hn h
 go_enter Tryz.func86,Tryz.ntmps86
 go_wp2_with fail
 refine (WalkLenT_any B gk L T w H.out).mono ?_
 rintro e w' ⟨rfl,rfl⟩
 rw [Hn.out]
 go_wp2_with fail
 go_ret
 exact ⟨rfl,rfl⟩
set_option maxRecDepth 100000 in
set_option maxHeartbeats 2000000 in
theorem WalkBackT_any (B gk:Nat) (L T:List Nat) (i s:Nat) (w:World) (h:WalkT w B gk L T) (his:L[i]?=some s) (hL:∀x∈L,x < 257) (hl:L.length≤1000) (hT:T.length≤1000):
 Calls Tryz.prog 52 #[.pointer (some ⟨gk,0,none⟩),.int .i64 (i:Int)] w fun e w'=>e=.returned (.int .i64 ((narT L T s i:Nat):Int))∧VB B w w':=by
 have hi:=(List.getElem?_eq_some_iff.1 his).1
 have hs:s < 257:=hL _ (List.mem_of_getElem? his)
 have hH:=h
 obtain ⟨gv,gt,h1,h2,h3⟩:=h
 have c0:=h1.cell 0
 have hlt:=h1.lt
 obtain ⟨j,hj⟩:∃j,narT L T s i=j:=⟨_,rfl⟩
 obtain ⟨q1,hq1⟩:∃q,T.countP (fun x=>decide (x < s))=q:=⟨_,rfl⟩
 obtain ⟨q2,hq2⟩:∃q,(L.take i).count s=q:=⟨_,rfl⟩
 have hj2:q1+q2=j:=by rw [←hq1,←hq2,←hj];rfl
 have hb1:q1≤1000:=by rw [←hq1];exact Nat.le_trans List.countP_le_length hT
 have hb2:q2≤1000:=by rw [←hq2];exact Nat.le_trans List.count_le_length (by rw [List.length_take];omega)
 rw [hj]
 have H:=Lib.hid hH
 have H1:=Lib.hid h1
 have H2:=Lib.hid h2
 have Hi:=Lib.hid hi
 have His:=Lib.hid his
 have HL:=Lib.hid hL
 have Hl:=Lib.hid hl
 have HT:=Lib.hid hT
 have Hq1:=Lib.hid hq1
 have Hq2:=Lib.hid hq2
 have Hj:=Lib.hid hj2
 clear hH h1 h2 h3 hi his hL hl hq1 hq2 hj hj2
 go_enter Tryz.func52,Tryz.ntmps52
 go_wp2_with fail
 refine (WalkIsT_any B gk L T i w H.out Hi.out).mono ?_
 rintro e w1 ⟨rfl,rfl⟩
 go_wp2_with fail
 refine (WaveGet_any B gv L i s w H2.out Hi.out (List.getElem?_eq_some_iff.1 His.out).2 HL.out Hl.out).mono ?_
 rintro e W ⟨rfl,hv⟩
 have hW:=H.out.vis hv.1
 have h1W:=hv.1.bk H1.out (by decide) (by decide)
 have h2W:=H2.out.vis hv.1
 have HW:=Lib.hid hW
 have H1W:=Lib.hid h1W
 have H2W:=Lib.hid h2W
 have Hv:=Lib.hid hv
 clear hW h1W h2W hv c0
 go_wp2_with fail
 refine wp_region_any (by kernel_rfl) ?_
 refine wpAny_loose2 [20,21,22,23,24,25,26,27,28,29,30,4] (VB B) (Vs [is (.pointer (some ⟨gk,0,none⟩)),is (.int .i64 (s:Int)),is (.int .i64 (q1:Int)),is (.pointer (some ⟨gk,0,none⟩)),is (.pointer (some ⟨gk,0,none⟩)),is (.pointer (some ⟨gk,0,none⟩)),is (.pointer (some ⟨gv,0,none⟩)),is (.int .i64 (i:Int)),is (.int .i64 (s:Int)),is (.int .i64 (q2:Int)),is (.int .i64 (j:Int)),is (.int .i64 (j:Int))]) _ _ rfl (by kernel_rfl) (VisK.refl _ _) (fun _ _=>VisK.trans) (stbs_all (by repeat' (first | exact stbs_is _ _ | exact stbs_any _ |(refine List.forall_mem_cons.2 ⟨?_,?_⟩)|(intro p hp;cases hp)))) ?_ ?_
 · refine steps_of ?_
   refine steps_cons (step_on rfl rfl fun ev _ _ _ _ hold _ _ _ _ hK=>?_) ?_
   · have e0:ev (.tmp 0)=.pointer (some ⟨gk,0,none⟩):=hold 0 (by kernel_rfl)
     go_simp
     exact hK _ _ ((VisK.refl _ _)) rfl
   refine steps_cons (step_on rfl rfl fun ev _ _ _ _ hold _ _ _ _ hK=>?_) ?_
   · have e5:ev (.tmp 5)=.int .i64 (s:Int):=hold 5 (by kernel_rfl)
     go_simp
     exact hK _ _ ((VisK.refl _ _)) rfl
   refine steps_cons (step_on rfl rfl fun _ w5 hS _ _ _ hval _ _ _ hK=>?_) ?_
   · have e20:_=_:=hval 0 20 (by kernel_rfl) rfl
     have e21:_=_:=hval 1 21 (by kernel_rfl) rfl
     replace hS:(VB B) W w5:=⟨⟨hS.1.os,hS.1.tape,hS.1.output,hS.1.size,hS.1.block⟩,⟨hS.2.os,hS.2.tape,hS.2.output,hS.2.size,hS.2.block⟩⟩
     go_simp
     refine (WalkBelowT_any B gk L T s w5 (HW.out.vis hS.1) hs HT.out).mono ?_
     rintro e w8 ⟨rfl,hb8⟩
     rw [Hq1.out]
     exact hK _ _ (VisK.of_below hb8) rfl
   refine steps_cons (step_on rfl rfl fun ev _ _ _ _ hold _ _ _ _ hK=>?_) ?_
   · have e0:ev (.tmp 0)=.pointer (some ⟨gk,0,none⟩):=hold 0 (by kernel_rfl)
     go_simp
     exact hK _ _ ((VisK.refl _ _)) rfl
   refine steps_cons (step_on rfl rfl fun _ _ _ _ _ _ hval _ _ _ hK=>?_) ?_
   · have e23:_=_:=hval 3 23 (by kernel_rfl) rfl
     go_simp
     exact hK _ _ ((VisK.refl _ _)) rfl
   refine steps_cons (step_on rfl rfl fun _ _ _ _ _ _ hval _ _ _ hK=>?_) ?_
   · have e24:_=_:=hval 4 24 (by kernel_rfl) rfl
     go_simp
     exact hK _ _ ((VisK.refl _ _)) rfl
   refine steps_cons (step_on rfl rfl fun _ w5 hS _ _ _ hval _ _ _ hK=>?_) ?_
   · have e25:_=_:=hval 5 25 (by kernel_rfl) rfl
     replace hS:(VB B) W w5:=⟨⟨hS.1.os,hS.1.tape,hS.1.output,hS.1.size,hS.1.block⟩,⟨hS.2.os,hS.2.tape,hS.2.output,hS.2.size,hS.2.block⟩⟩
     have c26:w5.cell? ⟨gk,0,none⟩=some (.pointer (some ⟨gv,0,none⟩)):=((hS.1.bk H1W.out (by decide) (by decide)).cell 0).trans rfl
     go_simp
     exact hK _ _ ((VisK.refl _ _)) rfl
   refine steps_cons (step_on rfl rfl fun ev _ _ _ _ hold _ _ _ _ hK=>?_) ?_
   · have e1:ev (.tmp 1)=.int .i64 (i:Int):=hold 1 (by kernel_rfl)
     go_simp
     exact hK _ _ ((VisK.refl _ _)) rfl
   refine steps_cons (step_on rfl rfl fun ev _ _ _ _ hold _ _ _ _ hK=>?_) ?_
   · have e5:ev (.tmp 5)=.int .i64 (s:Int):=hold 5 (by kernel_rfl)
     go_simp
     exact hK _ _ ((VisK.refl _ _)) rfl
   refine steps_cons (step_on rfl rfl fun _ w5 hS _ _ _ hval _ _ _ hK=>?_) ?_
   · have e26:_=_:=hval 6 26 (by kernel_rfl) rfl
     have e27:_=_:=hval 7 27 (by kernel_rfl) rfl
     have e28:_=_:=hval 8 28 (by kernel_rfl) rfl
     replace hS:(VB B) W w5:=⟨⟨hS.1.os,hS.1.tape,hS.1.output,hS.1.size,hS.1.block⟩,⟨hS.2.os,hS.2.tape,hS.2.output,hS.2.size,hS.2.block⟩⟩
     go_simp
     refine (WaveRank_any B gv L i s w5 (H2W.out.vis hS.1) hs (Nat.le_of_lt Hi.out) HL.out Hl.out).mono ?_
     rintro e w8 ⟨rfl,hv8⟩
     rw [Hq2.out]
     exact hK _ _ hv8 rfl
   refine steps_cons (step_on rfl rfl fun _ _ _ _ _ _ hval _ _ _ hK=>?_) ?_
   · have e22:_=_:=hval 2 22 (by kernel_rfl) rfl
     have e29:_=_:=hval 9 29 (by kernel_rfl) rfl
     have hx1:IntKind.i64.wrap ((q1:Int)+(q2:Int))=(j:Int):=by rw [IntKind.wrap_i64];have:=Hj.out;omega
     go_simp
     exact hK _ _ ((VisK.refl _ _)) rfl
   refine steps_cons (step_on rfl rfl fun _ _ _ _ _ _ hval _ _ _ hK=>?_) ?_
   · have e30:_=_:=hval 10 30 (by kernel_rfl) rfl
     go_simp
     exact hK _ _ ((VisK.refl _ _)) rfl
   exact steps_nil
 · intro ev w6 hS hval
   replace hS:(VB B) W w6:=⟨⟨hS.1.os,hS.1.tape,hS.1.output,hS.1.size,hS.1.block⟩,⟨hS.2.os,hS.2.tape,hS.2.output,hS.2.size,hS.2.block⟩⟩
   have e4:ev (.tmp 4)=.int .i64 (j:Int):=hval 11 4 rfl
   simp only [putsOf,List.foldl_cons,List.foldl_nil,Act.put,List.setIfInBounds_toArray,List.set_cons_zero,List.set_cons_succ]
   rw [e4]
   clear hval
   have hv6:=Hv.out.trans hS
   go_wp2_with fail
   go_ret
   exact ⟨rfl,hv6⟩
def WalkE (w:World) (B:Nat) (own:Nat→Nat) (gk:Nat) (L T:List Nat):Prop:=
 ∃gv gt,Bk w gk 55 #[.pointer (some ⟨gv,0,none⟩),.pointer (some ⟨gt,0,none⟩)]∧own gk=2∧WaveE w B own gv L∧Bk w gt 124 (tcells T)∧own gt=2
section
variable {w w' : World} {B : Nat} {own own' : Nat → Nat} {gk : Nat} {L T : List Nat}
theorem WalkE.atT (h:WalkE w B own gk L T):WalkT w B gk L T:=by
 obtain ⟨gv,gt,h1,_,h2,h3,_⟩:=h
 exact ⟨gv,gt,h1,h2.at,h3⟩
theorem WalkE.at (h:WalkE w B own gk L T) (hp:T.Perm L):WalkAt w B gk L:=by
 obtain ⟨gv,gt,h1,_,h2,h3,_⟩:=h
 rw [tcells_perm hp] at h3
 exact ⟨gv,gt,h1,h2.at,h3⟩
theorem WalkE.vis (h:WalkE w B own gk L T) (k:Vis w w'):WalkE w' B own gk L T:=by
 obtain ⟨gv,gt,h1,h2,h3,h4,h5⟩:=h
 exact ⟨gv,gt,k.bk h1 (by decide) (by decide),h2,h3.vis k,k.bk h4 (by decide) (by decide),h5⟩
theorem WalkE.far (h:WalkE w B own gk L T) {H:Nat→Prop} (k:Keep H w w') (hH:∀b,H b→own b≠2∧own b < 16):WalkE w' B own gk L T:=by
 obtain ⟨gv,gt,h1,h2,h3,h4,h5⟩:=h
 exact ⟨gv,gt,k.bk h1 (fun f=>by have:=hH _ f;omega),h2,h3.far k hH,k.bk h4 (fun f=>by have:=hH _ f;omega),h5⟩
theorem WalkE.paint (h:WalkE w B own gk L T) (h1:∀b,b < w.heap.size→2≤own b→own' b=own b) (h2:∀b,own' b≠0→B≤b∧b < w.heap.size):WalkE w B own' gk L T:=by
 obtain ⟨gv,gt,g1,g2,g3,g4,g5⟩:=h
 exact ⟨gv,gt,g1,by rw [h1 _ g1.lt (by omega)];exact g2,g3.paint h1 h2,g4,by rw [h1 _ g4.lt (by omega)];exact g5⟩
theorem WalkE.tally {T':List Nat} (h:WalkE w B own gk L T) (hp:T.Perm T'):WalkE w B own gk L T':=by
 obtain ⟨gv,gt,g1,g2,g3,g4,g5⟩:=h
 rw [tcells_perm hp] at g4
 exact ⟨gv,gt,g1,g2,g3,g4,g5⟩
theorem WaveE.bnd (h:WaveE w B own gk L):∀b,own b≠0→B≤b∧b < w.heap.size:=by
 obtain ⟨S,v,h⟩:=h
 exact h.bnd
theorem WalkE.bnd (h:WalkE w B own gk L T):∀b,own b≠0→B≤b∧b < w.heap.size:=by
 obtain ⟨gv,gt,g1,g2,g3,g4,g5⟩:=h
 exact g3.bnd
end
structure Grew (w w':World) (own own':Nat→Nat):Prop where
 old:∀b,b < w.heap.size→own' b=own b
 new:∀b,w.heap.size≤b→own' b≠1
 keep:Keep (fun b=>own b=2∨16≤own b) w w'
theorem Grew.refl {w:World} {own:Nat→Nat} (h:∀b,own b≠0→b < w.heap.size):Grew w w own own:=⟨fun _ _=>rfl,fun b hb e=>by have:=h b (by omega);omega,Keep.refl _ _⟩
theorem Grew.trans {w w1 w':World} {own own1 own':Nat→Nat} (h:Grew w w1 own own1) (k:Grew w1 w' own1 own'):Grew w w' own own':=by
 have hs:=h.keep.size
 refine ⟨fun b hb=>(k.old b (by omega)).trans (h.old b hb),fun b hb=>?_,h.keep.trans' k.keep fun b hb f=>by rw [←h.old b hb];exact f⟩
 by_cases c:b < w1.heap.size
 · rw [k.old b c]
   exact h.new b hb
 · exact k.new b (by omega)
theorem Grew.of_vb {B:Nat} {w w':World} {own:Nat→Nat} (k:Keep (fun b=>own b=2∨16≤own b) w w') (h:∀b,own b≠0→b < w.heap.size):Grew w w' own own:=⟨fun _ _=>rfl,fun b hb e=>by have:=h b (by omega);omega,k⟩
set_option maxRecDepth 100000 in
theorem WalkPut_any (B gk:Nat) (own:Nat→Nat) (L T:List Nat) (k s:Nat) (w:World) (h:WalkE w B own gk L T) (hs:s < 257) (hk:k≤L.length) (hL:∀x∈L,x < 257) (hn:L.length≤127):
 Calls Tryz.prog 25 #[.pointer (some ⟨gk,0,none⟩),.int .i64 (k:Int),.int .i64 (s:Int)] w fun e w'=>e=.returned (.tuple #[])∧∃own',WalkE w' B own' gk (insN L k s) T∧Grew w w' own own':=by
 obtain ⟨gv,gt,h1,h2,h3,h4,h5⟩:=h
 have c0:w.cell? ⟨gk,0,none⟩=some (.pointer (some ⟨gv,0,none⟩)):=(h1.cell 0).trans rfl
 have hgk:=h1.lt
 have hgv2:own gv=2:=by obtain ⟨S,v,h⟩:=h3;exact h.base.2
 have hgkv:gk≠gv:=by obtain ⟨S,v,h⟩:=h3;exact Bk.ne h1 h.blk (by decide)
 have hgtv:gt≠gv:=by obtain ⟨S,v,h⟩:=h3;exact Bk.ne h4 h.blk (by decide)
 have H1:=Lib.hid h1
 have H3:=Lib.hid h3
 have H4:=Lib.hid h4
 clear h1 h3 h4
 go_enter Tryz.func25,Tryz.ntmps25
 go_wp2_with fail
 refine (WaveInsert_any B gv own L k s w H3.out hs hk hL hn).mono ?_
 rintro e w1 ⟨rfl,own',hw1,ho1,ho2,hk1⟩
 have hb1:=hk1.bk H1.out (fun f=>by rcases f with f | f;exact hgkv f;omega)
 have ht1:=hk1.bk H4.out (fun f=>by rcases f with f | f;exact hgtv f;omega)
 have hg:Grew w w1 own own':=⟨ho1,ho2,hk1.mono fun b _ f=>by rcases f with f | f;left;rw [f,hgv2];right;exact f⟩
 have HG:=Lib.hid hg
 have hE:WalkE w1 B own' gk (insN L k s) T:=⟨gv,gt,hb1,by rw [ho1 _ hgk];exact h2,hw1,ht1,by rw [ho1 _ H4.out.lt];exact h5⟩
 have HE:=Lib.hid hE
 clear hw1 ho1 ho2 hk1 hb1 ht1 hg hE c0
 go_wp2_with fail
 go_end0
 exact ⟨rfl,own',HE.out,HG.out⟩
set_option maxRecDepth 100000 in
theorem WalkCut_any (B gk:Nat) (own:Nat→Nat) (L T:List Nat) (k s:Nat) (w:World) (h:WalkE w B own gk L T) (hks:L[k]?=some s) (hL:∀x∈L,x < 257) (hn:L.length≤128):
 Calls Tryz.prog 58 #[.pointer (some ⟨gk,0,none⟩),.int .i64 (k:Int)] w fun e w'=>e=.returned (.int .i64 (s:Int))∧∃own',WalkE w' B own' gk (delN L k) T∧Grew w w' own own':=by
 obtain ⟨gv,gt,h1,h2,h3,h4,h5⟩:=h
 have c0:w.cell? ⟨gk,0,none⟩=some (.pointer (some ⟨gv,0,none⟩)):=(h1.cell 0).trans rfl
 have hgk:=h1.lt
 have hgv2:own gv=2:=by obtain ⟨S,v,h⟩:=h3;exact h.base.2
 have hgkv:gk≠gv:=by obtain ⟨S,v,h⟩:=h3;exact Bk.ne h1 h.blk (by decide)
 have hgtv:gt≠gv:=by obtain ⟨S,v,h⟩:=h3;exact Bk.ne h4 h.blk (by decide)
 have H1:=Lib.hid h1
 have H3:=Lib.hid h3
 have H4:=Lib.hid h4
 have Hks:=Lib.hid hks
 clear h1 h3 h4 hks
 go_enter Tryz.func58,Tryz.ntmps58
 go_wp2_with fail
 refine (WaveDelete_any B gv own L k s w H3.out Hks.out hL hn).mono ?_
 rintro e w1 ⟨rfl,own',hw1,ho1,ho2,hk1⟩
 have hb1:=hk1.bk H1.out (fun f=>by rcases f with f | f;exact hgkv f;omega)
 have ht1:=hk1.bk H4.out (fun f=>by rcases f with f | f;exact hgtv f;omega)
 have hg:Grew w w1 own own':=⟨ho1,ho2,hk1.mono fun b _ f=>by rcases f with f | f;left;rw [f,hgv2];right;exact f⟩
 have HG:=Lib.hid hg
 have hE:WalkE w1 B own' gk (delN L k) T:=⟨gv,gt,hb1,by rw [ho1 _ hgk];exact h2,hw1,ht1,by rw [ho1 _ H4.out.lt];exact h5⟩
 have HE:=Lib.hid hE
 clear hw1 ho1 ho2 hk1 hb1 ht1 hg hE c0
 go_wp2_with fail
 go_ret
 exact ⟨rfl,own',HE.out,HG.out⟩
set_option maxRecDepth 100000 in
theorem WalkChange_any (B gk:Nat) (own:Nat→Nat) (L T:List Nat) (k s0 s:Nat) (w:World) (h:WalkE w B own gk L T) (hks:L[k]?=some s0) (hs:s < 257) (hL:∀x∈L,x < 257) (hn:L.length≤128):
 Calls Tryz.prog 23 #[.pointer (some ⟨gk,0,none⟩),.int .i64 (k:Int),.int .i64 (s:Int)] w fun e w'=>e=.returned (.tuple #[])∧∃own',WalkE w' B own' gk (L.set k s) T∧Grew w w' own own':=by
 have hkl:=(List.getElem?_eq_some_iff.1 hks).1
 have hdl:=delN_len L hkl
 have hset:insN (delN L k) k s=L.set k s:=by
  apply List.ext_getElem?
  intro j
  rw [insN_get _ _ (by omega),List.getElem?_set]
  by_cases c1:j < k
  · rw [if_pos c1,if_neg (by omega),delN_get _ hkl,if_pos c1]
  · rw [if_neg c1]
    by_cases c2:j=k
    · subst c2
      rw [if_pos rfl,if_pos rfl,if_pos hkl]
    · rw [if_neg c2,if_neg (fun e=>c2 e.symm),delN_get _ hkl,if_neg (by omega),show j - 1+1=j by omega]
 have H:=Lib.hid h
 have Hks:=Lib.hid hks
 have Hset:=Lib.hid hset
 clear h hks hset
 go_enter Tryz.func23,Tryz.ntmps23
 go_wp2_with fail
 refine (WalkCut_any B gk own L T k s0 w H.out Hks.out hL hn).mono ?_
 rintro e w1 ⟨rfl,own1,h1,g1⟩
 have H1:=Lib.hid h1
 have G1:=Lib.hid g1
 clear h1 g1
 go_wp2_with fail
 refine (WalkPut_any B gk own1 (delN L k) T k s w1 H1.out hs (by omega) (delN_lt hL) (by omega)).mono ?_
 rintro e w2 ⟨rfl,own2,h2,g2⟩
 rw [Hset.out] at h2
 have H2:=Lib.hid h2
 have G2:=Lib.hid (G1.out.trans g2)
 clear h2 g2
 go_wp2_with fail
 go_end0
 exact ⟨rfl,own2,H2.out,G2.out⟩
set_option maxRecDepth 100000 in
theorem WalkCountIn_any (B gk:Nat) (own:Nat→Nat) (L T:List Nat) (s:Nat) (w:World) (h:WalkE w B own gk L T) (hs:s < 257) (hT:T.length≤1000):
 Calls Tryz.prog 26 #[.pointer (some ⟨gk,0,none⟩),.int .i64 (s:Int),.int .i64 1] w fun e w'=>e=.returned (.tuple #[])∧WalkE w' B own gk L (T++ [s])∧Grew w w' own own:=by
 have hbnd:=h.bnd
 obtain ⟨gv,gt,h1,h2,h3,h4,h5⟩:=h
 have c1:w.cell? ⟨gk,1,none⟩=some (.pointer (some ⟨gt,0,none⟩)):=(h1.cell 1).trans rfl
 have hgk:=h1.lt
 have hgkt:gk≠gt:=Bk.ne h1 h4 (by decide)
 have H1:=Lib.hid h1
 have H3:=Lib.hid h3
 have H4:=Lib.hid h4
 clear h1 h3 h4
 go_enter Tryz.func26,Tryz.ntmps26
 go_wp2_with fail
 refine (TallyAdd_any gt T s w H4.out hs hT).mono ?_
 rintro e w1 ⟨rfl,ht,hk⟩
 have hb1:=hk.bk H1.out hgkt
 have hw1:WaveE w1 B own gv L:=by
  obtain ⟨S,v,h⟩:=H3.out
  refine ⟨S,v,hk.bk h.blk (Bk.ne h.blk H4.out (by decide)),h.base,fun lv hl=>?_,fun b hb=>⟨(h.bnd b hb).1,Nat.lt_of_lt_of_le (h.bnd b hb).2 hk.size⟩⟩
  obtain ⟨G,g1,g2,g3⟩:=h.rows lv hl
  exact ⟨G,own_same g1 fun b cs _ hk'=>hk.bk hk' (Bk.ne hk' H4.out (by decide)),g2,fun p hp=>(g3 p hp).keep hk fun b t cs hin hk' _ e=>by
   have e':b=gt:=e
   subst e'
   rw [(bk_inj hk' H4.out).1] at hin
   exact absurd hin (by decide)⟩
 have hE:WalkE w1 B own gk L (T++ [s]):=⟨gv,gt,hb1,h2,hw1,ht,h5⟩
 have hg:Grew w w1 own own:=Grew.of_vb (B:=B) (hk.mono fun b _ e=>by left;rw [show b=gt from e,h5]) fun b hb=>(hbnd b hb).2
 have HE:=Lib.hid hE
 have HG:=Lib.hid hg
 clear ht hk hb1 hw1 hE hg
 go_wp2_with fail
 go_end0
 exact ⟨rfl,HE.out,HG.out⟩
end Go.Proofs.YtipaccakmndkgaaGreat
