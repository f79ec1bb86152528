/- The walks of the walk's is and Back. Conditions: at most 1000 rows. -/
import Derived.Test.YtipaccakmndkgaaGreatPwa28
import Derived.Test.YtipaccakmndkgaaGreatPwa18
namespace Go.Proofs.YtipaccakmndkgaaGreat
open Go.RowKit
set_option linter.unusedVariables false
set_option linter.unusedSimpArgs false
set_option maxRecDepth 100000 in
theorem WalkIs_any (B gk:Nat) (L:List Nat) (i:Nat) (w:World) (h:WalkAt w B gk L) (hi:i < L.length):
 Calls Tryz.prog 86 #[.pointer (some ⟨gk,0,none⟩),.int .i64 (i:Int)] w fun e w'=>e=.returned (.bool true)∧w=w':=by
 obtain ⟨n,hn⟩:∃n,L.length=n:=⟨_,rfl⟩
 rw [hn] at hi
 have hiI:(i:Int) < (n:Int):=by omega
 have Hn:=Lib.hid hn
 have H:=Lib.hid h
 clear hn h
 go_enter Tryz.func86,Tryz.ntmps86
 go_wp2_with fail
 refine (WalkLen_any B gk L w H.out).mono ?_
 rintro e w' ⟨rfl,rfl⟩
 rw [Hn.out]
 go_wp2_with fail
 go_ret
 exact ⟨rfl,rfl⟩
set_option maxRecDepth 100000 in
set_option maxHeartbeats 2000000 in
theorem WalkBack_any (B gk:Nat) (L:List Nat) (i s:Nat) (w:World) (h:WalkAt w B gk L) (his:L[i]?=some s) (hL:∀x∈L,x < 257) (hl:L.length≤1000):
 Calls Tryz.prog 52 #[.pointer (some ⟨gk,0,none⟩),.int .i64 (i:Int)] w fun e w'=>e=.returned (.int .i64 ((narL L s i:Nat):Int))∧VB B w w':=by
 have hi:=(List.getElem?_eq_some_iff.1 his).1
 have hs:s < 257:=hL _ (List.mem_of_getElem? his)
 have hH:=h
 obtain ⟨gv,gt,h1,h2,h3⟩:=h
 have c0:=h1.cell 0
 have hlt:=h1.lt
 obtain ⟨j,hj⟩:∃j,narL L s i=j:=⟨_,rfl⟩
 obtain ⟨q1,hq1⟩:∃q,L.countP (fun x=>decide (x < s))=q:=⟨_,rfl⟩
 obtain ⟨q2,hq2⟩:∃q,(L.take i).count s=q:=⟨_,rfl⟩
 have hj2:q1+q2=j:=by rw [←hq1,←hq2,←hj];rfl
 have hb1:q1≤1000:=by rw [←hq1];exact Nat.le_trans List.countP_le_length hl
 have hb2:q2≤1000:=by rw [←hq2];exact Nat.le_trans List.count_le_length (by rw [List.length_take];omega)
 rw [hj]
 have H:=Lib.hid hH
 have H1:=Lib.hid h1
 have H2:=Lib.hid h2
 have Hi:=Lib.hid hi
 have His:=Lib.hid his
 have HL:=Lib.hid hL
 have Hl:=Lib.hid hl
 have Hq1:=Lib.hid hq1
 have Hq2:=Lib.hid hq2
 have Hj:=Lib.hid hj2
 clear hH h1 h2 h3 hi his hL hl hq1 hq2 hj hj2
 go_enter Tryz.func52,Tryz.ntmps52
 go_wp2_with fail
 refine (WalkIs_any B gk L i w H.out Hi.out).mono ?_
 rintro e w1 ⟨rfl,rfl⟩
 go_wp2_with fail
 refine (WaveGet_any B gv L i s w H2.out Hi.out (List.getElem?_eq_some_iff.1 His.out).2 HL.out Hl.out).mono ?_
 rintro e W ⟨rfl,hv⟩
 have hW:=H.out.vis hv.1
 have h1W:=hv.1.bk H1.out (by decide) (by decide)
 have h2W:=H2.out.vis hv.1
 have HW:=Lib.hid hW
 have H1W:=Lib.hid h1W
 have H2W:=Lib.hid h2W
 have Hv:=Lib.hid hv
 clear hW h1W h2W hv c0
 go_wp2_with fail
 refine wp_region_any (by kernel_rfl) ?_
 refine wpAny_loose2 [20,21,22,23,24,25,26,27,28,29,30,4] (VB B) (Vs [is (.pointer (some ⟨gk,0,none⟩)),is (.int .i64 (s:Int)),is (.int .i64 (q1:Int)),is (.pointer (some ⟨gk,0,none⟩)),is (.pointer (some ⟨gk,0,none⟩)),is (.pointer (some ⟨gk,0,none⟩)),is (.pointer (some ⟨gv,0,none⟩)),is (.int .i64 (i:Int)),is (.int .i64 (s:Int)),is (.int .i64 (q2:Int)),is (.int .i64 (j:Int)),is (.int .i64 (j:Int))]) _ _ rfl (by kernel_rfl) (VisK.refl _ _) (fun _ _=>VisK.trans) (stbs_all (by repeat' (first | exact stbs_is _ _ | exact stbs_any _ |(refine List.forall_mem_cons.2 ⟨?_,?_⟩)|(intro p hp;cases hp)))) ?_ ?_
 · refine steps_of ?_
   refine steps_cons (step_on rfl rfl fun ev _ _ _ _ hold _ _ _ _ hK=>?_) ?_
   · have e0:ev (.tmp 0)=.pointer (some ⟨gk,0,none⟩):=hold 0 (by kernel_rfl)
     go_simp
     exact hK _ _ ((VisK.refl _ _)) rfl
   refine steps_cons (step_on rfl rfl fun ev _ _ _ _ hold _ _ _ _ hK=>?_) ?_
   · have e5:ev (.tmp 5)=.int .i64 (s:Int):=hold 5 (by kernel_rfl)
     go_simp
     exact hK _ _ ((VisK.refl _ _)) rfl
   refine steps_cons (step_on rfl rfl fun _ w5 hS _ _ _ hval _ _ _ hK=>?_) ?_
   · have e20:_=_:=hval 0 20 (by kernel_rfl) rfl
     have e21:_=_:=hval 1 21 (by kernel_rfl) rfl
     replace hS:(VB B) W w5:=⟨⟨hS.1.os,hS.1.tape,hS.1.output,hS.1.size,hS.1.block⟩,⟨hS.2.os,hS.2.tape,hS.2.output,hS.2.size,hS.2.block⟩⟩
     go_simp
     refine (WalkBelow_any B gk L s w5 (HW.out.vis hS.1) hs Hl.out).mono ?_
     rintro e w8 ⟨rfl,hb8⟩
     rw [Hq1.out]
     exact hK _ _ (VisK.of_below hb8) rfl
   refine steps_cons (step_on rfl rfl fun ev _ _ _ _ hold _ _ _ _ hK=>?_) ?_
   · have e0:ev (.tmp 0)=.pointer (some ⟨gk,0,none⟩):=hold 0 (by kernel_rfl)
     go_simp
     exact hK _ _ ((VisK.refl _ _)) rfl
   refine steps_cons (step_on rfl rfl fun _ _ _ _ _ _ hval _ _ _ hK=>?_) ?_
   · have e23:_=_:=hval 3 23 (by kernel_rfl) rfl
     go_simp
     exact hK _ _ ((VisK.refl _ _)) rfl
   refine steps_cons (step_on rfl rfl fun _ _ _ _ _ _ hval _ _ _ hK=>?_) ?_
   · have e24:_=_:=hval 4 24 (by kernel_rfl) rfl
     go_simp
     exact hK _ _ ((VisK.refl _ _)) rfl
   refine steps_cons (step_on rfl rfl fun _ w5 hS _ _ _ hval _ _ _ hK=>?_) ?_
   · have e25:_=_:=hval 5 25 (by kernel_rfl) rfl
     replace hS:(VB B) W w5:=⟨⟨hS.1.os,hS.1.tape,hS.1.output,hS.1.size,hS.1.block⟩,⟨hS.2.os,hS.2.tape,hS.2.output,hS.2.size,hS.2.block⟩⟩
     have c26:w5.cell? ⟨gk,0,none⟩=some (.pointer (some ⟨gv,0,none⟩)):=((hS.1.bk H1W.out (by decide) (by decide)).cell 0).trans rfl
     go_simp
     exact hK _ _ ((VisK.refl _ _)) rfl
   refine steps_cons (step_on rfl rfl fun ev _ _ _ _ hold _ _ _ _ hK=>?_) ?_
   · have e1:ev (.tmp 1)=.int .i64 (i:Int):=hold 1 (by kernel_rfl)
     go_simp
     exact hK _ _ ((VisK.refl _ _)) rfl
   refine steps_cons (step_on rfl rfl fun ev _ _ _ _ hold _ _ _ _ hK=>?_) ?_
   · have e5:ev (.tmp 5)=.int .i64 (s:Int):=hold 5 (by kernel_rfl)
     go_simp
     exact hK _ _ ((VisK.refl _ _)) rfl
   refine steps_cons (step_on rfl rfl fun _ w5 hS _ _ _ hval _ _ _ hK=>?_) ?_
   · have e26:_=_:=hval 6 26 (by kernel_rfl) rfl
     have e27:_=_:=hval 7 27 (by kernel_rfl) rfl
     have e28:_=_:=hval 8 28 (by kernel_rfl) rfl
     replace hS:(VB B) W w5:=⟨⟨hS.1.os,hS.1.tape,hS.1.output,hS.1.size,hS.1.block⟩,⟨hS.2.os,hS.2.tape,hS.2.output,hS.2.size,hS.2.block⟩⟩
     go_simp
     refine (WaveRank_any B gv L i s w5 (H2W.out.vis hS.1) hs (Nat.le_of_lt Hi.out) HL.out Hl.out).mono ?_
     rintro e w8 ⟨rfl,hv8⟩
     rw [Hq2.out]
     exact hK _ _ hv8 rfl
   refine steps_cons (step_on rfl rfl fun _ _ _ _ _ _ hval _ _ _ hK=>?_) ?_
   · have e22:_=_:=hval 2 22 (by kernel_rfl) rfl
     have e29:_=_:=hval 9 29 (by kernel_rfl) rfl
     have hx1:IntKind.i64.wrap ((q1:Int)+(q2:Int))=(j:Int):=by rw [IntKind.wrap_i64];have:=Hj.out;omega
     go_simp
     exact hK _ _ ((VisK.refl _ _)) rfl
   refine steps_cons (step_on rfl rfl fun _ _ _ _ _ _ hval _ _ _ hK=>?_) ?_
   · have e30:_=_:=hval 10 30 (by kernel_rfl) rfl
     go_simp
     exact hK _ _ ((VisK.refl _ _)) rfl
   exact steps_nil
 · intro ev w6 hS hval
   replace hS:(VB B) W w6:=⟨⟨hS.1.os,hS.1.tape,hS.1.output,hS.1.size,hS.1.block⟩,⟨hS.2.os,hS.2.tape,hS.2.output,hS.2.size,hS.2.block⟩⟩
   have e4:ev (.tmp 4)=.int .i64 (j:Int):=hval 11 4 rfl
   simp only [putsOf,List.foldl_cons,List.foldl_nil,Act.put,List.setIfInBounds_toArray,List.set_cons_zero,List.set_cons_succ]
   rw [e4]
   clear hval
   have hv6:=Hv.out.trans hS
   go_wp2_with fail
   go_ret
   exact ⟨rfl,hv6⟩
end Go.Proofs.YtipaccakmndkgaaGreat
