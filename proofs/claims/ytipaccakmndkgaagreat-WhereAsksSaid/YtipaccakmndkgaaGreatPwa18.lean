/- The walks of walk's New, of, Len, Below. Conditions: at most 127 bytes; a symbol (below 257); places in order. The walks of perm's at and has (with their closures): where a row's pair stands, where a place's. Conditions: rows and places below 2^40, at most 2^40 pairs. The walk of walk's Narrow. Conditions: a symbol (below 257); places in order. -/
import Derived.Test.YtipaccakmndkgaaGreatPwa16
import Derived.Test.YtipaccakmndkgaaGreatPwa17
namespace Go.Proofs.YtipaccakmndkgaaGreat
open Go.RowKit
set_option linter.unusedVariables false
set_option linter.unusedSimpArgs false
theorem WaveAt.mono {w:World} {B B' gv:Nat} {L:List Nat} (h:WaveAt w B gv L) (hB:B'≤B):WaveAt w B' gv L:=by
 obtain ⟨h0,S,v,h1,h2⟩:=h
 exact ⟨Nat.le_trans hB h0,S,v,h1,fun lv hl=>(h2 lv hl).mono hB⟩
def WalkAt (w:World) (B gk:Nat) (L:List Nat):Prop:=
 ∃gv gt,Bk w gk 55 #[.pointer (some ⟨gv,0,none⟩),.pointer (some ⟨gt,0,none⟩)]∧WaveAt w B gv L∧Bk w gt 124 (tcells L)
theorem WalkAt.vis {w w':World} {B gk:Nat} {L:List Nat} (h:WalkAt w B gk L) (k:Vis w w'):WalkAt w' B gk L:=by
 obtain ⟨gv,gt,h1,h2,h3⟩:=h
 exact ⟨gv,gt,k.bk h1 (by decide) (by decide),h2.vis k,k.bk h3 (by decide) (by decide)⟩
theorem WalkAt.mono {w:World} {B B' gk:Nat} {L:List Nat} (h:WalkAt w B gk L) (hB:B'≤B):WalkAt w B' gk L:=by
 obtain ⟨gv,gt,h1,h2,h3⟩:=h
 exact ⟨gv,gt,h1,h2.mono hB,h3⟩
set_option maxRecDepth 100000 in
theorem WaveLen_any (B gv:Nat) (L:List Nat) (w:World) (h:WaveAt w B gv L):
 Calls Tryz.prog 84 #[.pointer (some ⟨gv,0,none⟩)] w fun e w'=>e=.returned (.int .i64 (L.length:Int))∧w=w':=by
 obtain ⟨_,S,v,hb,_⟩:=h
 have c9:w.cell? ⟨gv,9,none⟩=some (.int .i64 (L.length:Int)):=by
  rw [hb.cell]
  have:=wcells_get S (L.length:Int) v
  simp [this]
 clear hb
 go_enter Tryz.func84,Tryz.ntmps84
 go_wp2
 go_ret
 exact ⟨rfl,rfl⟩
set_option maxRecDepth 100000 in
theorem WalkLen_any (B gk:Nat) (L:List Nat) (w:World) (h:WalkAt w B gk L):
 Calls Tryz.prog 49 #[.pointer (some ⟨gk,0,none⟩)] w fun e w'=>e=.returned (.int .i64 (L.length:Int))∧w=w':=by
 obtain ⟨gv,gt,h1,h2,h3⟩:=h
 have c0:=h1.cell 0
 clear h1 h3
 go_enter Tryz.func49,Tryz.ntmps49
 go_wp2_with fail
 refine (WaveLen_any B gv L _ h2).mono ?_
 rintro e w' ⟨rfl,rfl⟩
 go_wp2_with fail
 go_ret
 exact ⟨rfl,rfl⟩
set_option maxRecDepth 100000 in
theorem WalkBelow_any (B gk:Nat) (L:List Nat) (s:Nat) (w:World) (h:WalkAt w B gk L) (hs:s < 257) (hl:L.length≤1000):
 Calls Tryz.prog 87 #[.pointer (some ⟨gk,0,none⟩),.int .i64 (s:Int)] w fun e w'=>e=.returned (.int .i64 ((L.countP (fun x=>decide (x < s)):Nat):Int))∧Below w.heap.size w w':=by
 obtain ⟨gv,gt,h1,h2,h3⟩:=h
 have c1:=h1.cell 1
 clear h1 h2
 have H3:=Lib.hid h3
 clear h3
 go_enter Tryz.func87,Tryz.ntmps87
 go_wp2_with fail
 refine (TallyBelow_any gt L s _ H3.out hs hl).mono ?_
 rintro e w' ⟨rfl,hb⟩
 obtain ⟨q,hq⟩:∃q,L.countP (fun x=>decide (x < s))=q:=⟨_,rfl⟩
 rw [hq]
 go_wp2_with fail
 go_ret
 exact ⟨by rw [hq];rfl,hb⟩
set_option maxRecDepth 100000 in
theorem WalkOf_any (A:Option Addr) (m c B:Nat) (L:List Nat) (w:World) (hr:Rd w B 1 A m (L.map sv)) (hB:B≤w.heap.size) (hm:m≤128) (hL:∀s∈L,s < 257):
 Calls Tryz.prog 37 #[.slice A m c] w fun e w'=>∃gk,e=.returned (.pointer (some ⟨gk,0,none⟩))∧w.heap.size≤gk∧WalkAt w' w.heap.size gk L∧Below w.heap.size w w':=by
 have Hr:=Lib.hid hr
 have HL:=Lib.hid hL
 clear hr hL
 go_enter Tryz.func37,Tryz.ntmps37
 go_wp2_with fail
 refine (WaveNew_any A m c B L _ Hr.out hB hm HL.out).mono ?_
 rintro e w1 ⟨gv,rfl,hgv,hwv,hb1⟩
 have Hwv:=Lib.hid hwv
 have Hb1:=Lib.hid hb1
 clear hwv hb1
 go_wp2_with fail
 refine (TallyNew_any A m c B L w1 (Hr.out.below (Hb1.out.mono hB)) (by have:=Hb1.out.size;omega) (by omega) HL.out).mono ?_
 rintro e w2 ⟨gt,rfl,hgt,htl,hb2⟩
 have hwv2:=Hwv.out.vis (Vis.of_below hb2)
 have hb3:=Hb1.out.trans (hb2.mono Hb1.out.size)
 have Hwv2:=Lib.hid hwv2
 have Htl:=Lib.hid htl
 have Hb3:=Lib.hid hb3
 clear hwv2 htl hb3 hb2 Hwv Hb1
 go_wp2_with fail
 go_ret
 exact ⟨_,rfl,Hb3.out.size,⟨gv,gt,Bk.new _ _ _,Hwv2.out.vis ((Vis.refl _).alloc _),Htl.out.alloc _⟩,Hb3.out.alloc Hb3.out.size _⟩
set_option maxRecDepth 100000 in
theorem WalkNew_any (A:Option Addr) (m c B:Nat) (t:List UInt8) (w:World) (hr:Rd w B 1 A m (t.map bv)) (hB:B≤w.heap.size) (hm:m≤127):
 Calls Tryz.prog 13 #[.slice A m c] w fun e w'=>∃gk rs,IsSuf (symL t) rs∧e=.returned (.pointer (some ⟨gk,0,none⟩))∧w.heap.size≤gk∧WalkAt w' w.heap.size gk (lastL (symL t) rs)∧Below w.heap.size w w':=by
 have Hr:=Lib.hid hr
 clear hr
 go_enter Tryz.func13,Tryz.ntmps13
 go_wp2_with fail
 refine (SortedLast_any A m c B t _ Hr.out hB (by omega)).mono ?_
 rintro e w1 ⟨rs,A1,c1,hsuf,rfl,hm1,hb1⟩
 have Hsuf:=Lib.hid hsuf
 have Hm1:=Lib.hid hm1.rd
 have Hb1:=Lib.hid hb1
 clear hsuf hm1 hb1
 go_wp2_with fail
 refine (WalkOf_any A1 (m+1) c1 _ _ w1 Hm1.out (Nat.le_refl _) (by omega) (lastL_lt (symL_lt t))).mono ?_
 rintro e w2 ⟨gk,rfl,hgk,hwk,hb2⟩
 have hb3:=Hb1.out.trans (hb2.mono Hb1.out.size)
 have hz:=Hb1.out.size
 go_wp2_with fail
 go_ret
 exact ⟨gk,rs,Hsuf.out,rfl,by omega,hwk.mono hz,hb3⟩
def narL (L:List Nat) (s k:Nat):Nat:=L.countP (fun x=>decide (x < s))+(L.take k).count s
end Go.Proofs.YtipaccakmndkgaaGreat
namespace Go.Proofs.YtipaccakmndkgaaGreat
open Go.RowKit Go.Shelf
set_option linter.unusedVariables false
set_option linter.unusedSimpArgs false
def pairV (x:Nat×Nat):List Value:= [.int .i64 (x.1:Int),.int .i64 (x.2:Int)]
def pairsL (C:List (Nat×Nat)):List Value:=C.flatMap pairV
def rowK (C:List (Nat×Nat)) (k:Nat):Nat:=(C.getD k (0,0)).1
def posK (C:List (Nat×Nat)) (k:Nat):Nat:=(C.getD k (0,0)).2
theorem pairsL_len (C:List (Nat×Nat)):(pairsL C).length=C.length*2:=by
 induction C with
 | nil=>rfl
 | cons x l ih=>
   have:pairsL (x::l)=pairV x++pairsL l:=rfl
   rw [this,List.length_append,ih]
   simp [pairV]
   omega
theorem pairsL_get (C:List (Nat×Nat)) (k:Nat) (h:k < C.length):(pairsL C)[k*2]?=some (.int .i64 ((rowK C k:Nat):Int))∧(pairsL C)[k*2+1]?=some (.int .i64 ((posK C k:Nat):Int)):=by
 induction C generalizing k with
 | nil=>cases h
 | cons x l ih=>
   have e:pairsL (x::l)=pairV x++pairsL l:=rfl
   rcases k with _ | k
   · exact ⟨rfl,rfl⟩
   · have:=ih k (by simpa using h)
     rw [e,List.getElem?_append_right (by simp [pairV];omega),List.getElem?_append_right (by simp [pairV];omega)]
     rw [show (k+1)*2 -(pairV x).length=k*2 by simp [pairV];omega,show (k+1)*2+1 -(pairV x).length=k*2+1 by simp [pairV];omega]
     exact this
structure PRd (W:World) (gb gp:Nat) (A:Option Addr) (n c:Nat) (C:List (Nat×Nat)):Prop where
 box:W.cell? ⟨gb,0,none⟩=some (.pointer (some ⟨gp,0,none⟩))
 sl:W.cell? ⟨gp,1,none⟩=some (.slice A n c)
 rd:Rd W W.heap.size 2 A n (pairsL C)
theorem PRd.below {W W':World} {gb gp n c:Nat} {A:Option Addr} {C:List (Nat×Nat)} (h:PRd W gb gp A n c C) (hb:gb < W.heap.size) (hp:gp < W.heap.size) (k:Below W.heap.size W W'):PRd W' gb gp A n c C:=
 ⟨(k.cell hb).trans h.box,(k.cell hp).trans h.sl,(h.rd.below k).mono k.size⟩
theorem PRd.drewN {W:World} {gb gp n c:Nat} {A:Option Addr} {C:List (Nat×Nat)} (h:PRd W gb gp A n c C) (q:Nat):PRd (W.drewN q) gb gp A n c C:=⟨h.box,h.sl,h.rd⟩
theorem PRd.at {W:World} {gb gp n c:Nat} {A:Option Addr} {C:List (Nat×Nat)} (h:PRd W gb gp A n c C) {k:Nat} (hk:k < C.length):
 k < n∧∃b off,A=some ⟨b,off,none⟩∧W.cell? ⟨b,off+k*2,none⟩=some (.int .i64 ((rowK C k:Nat):Int))∧W.cell? ⟨b,off+k*2+1,none⟩=some (.int .i64 ((posK C k:Nat):Int)):=by
 have hl:=h.rd.1
 rw [pairsL_len] at hl
 have hn:k < n:=by omega
 obtain ⟨b,off,e,_,hc⟩:=h.rd.2 (by omega)
 obtain ⟨h1,h2⟩:=pairsL_get C k hk
 exact ⟨hn,b,off,e,hc _ _ h1,by rw [Nat.add_assoc];exact hc _ _ h2⟩
set_option maxRecDepth 100000 in
theorem PermAt1_any (gb gp:Nat) (A:Option Addr) (n c:Nat) (C:List (Nat×Nat)) (k row:Nat) (W:World) (h:PRd W gb gp A n c C) (hk:k < C.length):
 Calls Tryz.prog 77 #[.int .i64 (k:Int),.int .i64 (row:Int),.pointer (some ⟨gb,0,none⟩)] W fun e w'=>e=.returned (.int .i64 (Lib.compareInt (rowK C k:Nat) row))∧W=w':=by
 obtain ⟨hkn,b,off,rfl,h1,h2⟩:=h.at hk
 have c0:=h.box
 have c1:=h.sl
 have hcmp:=AnyG.cmp_Compare_int shCmp ((rowK C k:Nat):Int) (row:Int) W
 change Calls Tryz.prog 78 _ _ _ at hcmp
 generalize Lib.compareInt (rowK C k:Nat) row=r at hcmp⊢
 clear h h2
 go_enter Tryz.func77,Tryz.ntmps77
 go_wp2_with fail
 refine hcmp.mono ?_
 rintro e w' ⟨rfl,rfl⟩
 go_wp2_with fail
 go_ret
 exact ⟨rfl,rfl⟩
set_option maxRecDepth 100000 in
theorem PermHas1_any (gb gq gp:Nat) (A:Option Addr) (n c:Nat) (C:List (Nat×Nat)) (k pos:Nat) (W:World) (h:PRd W gb gp A n c C) (hq:W.cell? ⟨gq,0,none⟩=some (.int .i64 (pos:Int))) (hk:k < C.length):
 Calls Tryz.prog 80 #[.int .i64 (k:Int),.pointer (some ⟨gb,0,none⟩),.pointer (some ⟨gq,0,none⟩)] W fun e w'=>e=.returned (.bool (decide (posK C k=pos)))∧∃q,w'=W.drewN q:=by
 obtain ⟨hkn,b,off,rfl,h1,h2⟩:=h.at hk
 have c0:=h.box
 have c1:=h.sl
 obtain ⟨x,hx⟩:∃x,posK C k=x:=⟨_,rfl⟩
 rw [hx] at h2⊢
 clear h h1 hx
 by_cases e:x=pos
 · subst e
   go_enter Tryz.func80,Tryz.ntmps80
   go_wp2
   go_quiet (fail)
   go_wp2
   go_ret
   exact ⟨by simp,_,rfl⟩
 · have e1:((x:Int)==(pos:Int))=false:=by simp;omega
   go_enter Tryz.func80,Tryz.ntmps80
   go_wp2
   go_quiet (fail)
   go_wp2
   go_ret
   exact ⟨by simp [e],_,rfl⟩
end Go.Proofs.YtipaccakmndkgaaGreat
namespace Go.Proofs.YtipaccakmndkgaaGreat
open Go.RowKit
set_option linter.unusedVariables false
set_option linter.unusedSimpArgs false
set_option maxRecDepth 100000 in
set_option maxHeartbeats 2000000 in
theorem WalkNarrow_any (B gk:Nat) (L:List Nat) (lo hi s:Nat) (w:World) (h:WalkAt w B gk L) (hs:s < 257) (h1:lo≤hi) (h2:hi≤L.length) (hL:∀x∈L,x < 257) (hl:L.length≤1000):
 Calls Tryz.prog 69 #[.pointer (some ⟨gk,0,none⟩),.int .i64 (lo:Int),.int .i64 (hi:Int),.int .i64 (s:Int)] w fun e w'=>e=.returned (.tuple #[.int .i64 ((narL L s lo:Nat):Int),.int .i64 ((narL L s hi:Nat):Int)])∧VB B w w':=by
 obtain ⟨N,hN⟩:∃N,L.length=N:=⟨_,rfl⟩
 obtain ⟨q,hq⟩:∃q,L.countP (fun x=>decide (x < s))=q:=⟨_,rfl⟩
 obtain ⟨r1,hr1⟩:∃q,(L.take lo).count s=q:=⟨_,rfl⟩
 obtain ⟨r2,hr2⟩:∃q,(L.take hi).count s=q:=⟨_,rfl⟩
 have b0:q≤1000:=by rw [←hq];exact Nat.le_trans List.countP_le_length hl
 have b1:r1≤1000:=by rw [←hr1];exact Nat.le_trans List.count_le_length (by rw [List.length_take];omega)
 have b2:r2≤1000:=by rw [←hr2];exact Nat.le_trans List.count_le_length (by rw [List.length_take];omega)
 unfold narL
 rw [hq,hr1,hr2]
 obtain ⟨gv,gt,k1,k2,k3⟩:=h
 have Hw:Hid (WalkAt w B gk L):=Lib.hid ⟨gv,gt,k1,k2,k3⟩
 have Hk:=Lib.hid k1
 have Hwv:=Lib.hid k2
 have hl2:N≤1000:=by omega
 have h3:hi≤N:=by omega
 have Hs:=Lib.hid hs
 have HL:=Lib.hid hL
 have Hl:=Lib.hid hl
 have HN:=Lib.hid hN
 have Hb:=Lib.hid hq
 have HR1:=Lib.hid hr1
 have HR2:=Lib.hid hr2
 have m1:max (lo:Int) 0=(lo:Int):=by omega
 have m2:min (lo:Int) (N:Int)=(lo:Int):=by omega
 have m3:min (hi:Int) (N:Int)=(hi:Int):=by omega
 have m4:max (hi:Int) (lo:Int)=(hi:Int):=by omega
 clear k1 k2 k3 hL hl hq hr1 hr2 h2
 go_enter Tryz.func69,Tryz.ntmps69
 go_wp2_with fail
 refine (SymIs_any s _ hs).mono ?_
 rintro e w1 ⟨rfl,hb1⟩
 have hv1:VB B w w1:=VisK.of_below hb1
 have Hv1:=Lib.hid hv1
 clear hb1 hv1
 go_wp2_with fail
 refine (WalkLen_any B gk L _ (Hw.out.vis Hv1.out.1)).mono ?_
 rintro e w2 ⟨rfl,rfl⟩
 rw [HN.out]
 go_wp2_with fail
 refine (WalkLen_any B gk L _ (Hw.out.vis Hv1.out.1)).mono ?_
 rintro e w2 ⟨rfl,rfl⟩
 rw [HN.out]
 go_wp2_with fail
 have HV:=Lib.hid Hv1.out
 clear Hv1 m1 m2 m3 m4 hN
 obtain ⟨w2,hw2⟩:∃w2,w2=w1:=⟨_,rfl⟩
 subst hw2
 refine wp_region_any (by kernel_rfl) ?_
 refine wpAny_loose2 [28,29,30,31,32,33,34,35,36,37,38,39,40,41,42,43,44,45,46,47,48,49,8,9] (VB B) (Vs [is (.pointer (some ⟨gk,0,none⟩)),is (.int .i64 (s:Int)),is (.int .i64 (q:Int)),is (.pointer (some ⟨gk,0,none⟩)),is (.pointer (some ⟨gk,0,none⟩)),is (.pointer (some ⟨gk,0,none⟩)),is (.pointer (some ⟨gv,0,none⟩)),is (.int .i64 (lo:Int)),is (.int .i64 (s:Int)),is (.int .i64 (r1:Int)),is (.int .i64 ((q+r1:Nat):Int)),is (.pointer (some ⟨gk,0,none⟩)),is (.int .i64 (s:Int)),is (.int .i64 (q:Int)),is (.pointer (some ⟨gk,0,none⟩)),is (.pointer (some ⟨gk,0,none⟩)),is (.pointer (some ⟨gk,0,none⟩)),is (.pointer (some ⟨gv,0,none⟩)),is (.int .i64 (hi:Int)),is (.int .i64 (s:Int)),is (.int .i64 (r2:Int)),is (.int .i64 ((q+r2:Nat):Int)),is (.int .i64 ((q+r1:Nat):Int)),is (.int .i64 ((q+r2:Nat):Int))]) _ _ rfl (by kernel_rfl) (VisK.refl _ _) (fun _ _=>VisK.trans) (stbs_all (by repeat' (first | exact stbs_is _ _ | exact stbs_any _ |(refine List.forall_mem_cons.2 ⟨?_,?_⟩)|(intro p hp;cases hp)))) ?_ ?_
 · refine steps_of ?_
   refine steps_cons (step_on rfl rfl fun ev _ _ _ _ hold _ _ _ _ hK=>?_) ?_
   · have e0:ev (.tmp 0)=.pointer (some ⟨gk,0,none⟩):=hold 0 (by kernel_rfl)
     go_simp
     exact hK _ _ ((VisK.refl _ _)) rfl
   refine steps_cons (step_on rfl rfl fun ev _ _ _ _ hold _ _ _ _ hK=>?_) ?_
   · have e3:ev (.tmp 3)=.int .i64 (s:Int):=hold 3 (by kernel_rfl)
     go_simp
     exact hK _ _ ((VisK.refl _ _)) rfl
   refine steps_cons (step_on rfl rfl fun _ w5 hS _ _ _ hval _ _ _ hK=>?_) ?_
   · have e28:_=_:=hval 0 28 (by kernel_rfl) rfl
     have e29:_=_:=hval 1 29 (by kernel_rfl) rfl
     replace hS:(VB B) w2 w5:=⟨⟨hS.1.os,hS.1.tape,hS.1.output,hS.1.size,hS.1.block⟩,⟨hS.2.os,hS.2.tape,hS.2.output,hS.2.size,hS.2.block⟩⟩
     go_simp
     refine (WalkBelow_any B gk L s w5 (Hw.out.vis (HV.out.trans hS).1) Hs.out Hl.out).mono ?_
     rintro e w8 ⟨rfl,hb8⟩
     rw [Hb.out]
     exact hK _ _ (VisK.of_below hb8) rfl
   refine steps_cons (step_on rfl rfl fun ev _ _ _ _ hold _ _ _ _ hK=>?_) ?_
   · have e0:ev (.tmp 0)=.pointer (some ⟨gk,0,none⟩):=hold 0 (by kernel_rfl)
     go_simp
     exact hK _ _ ((VisK.refl _ _)) rfl
   refine steps_cons (step_on rfl rfl fun _ w5 hS _ _ _ hval _ _ _ hK=>?_) ?_
   · have e31:_=_:=hval 3 31 (by kernel_rfl) rfl
     replace hS:(VB B) w2 w5:=⟨⟨hS.1.os,hS.1.tape,hS.1.output,hS.1.size,hS.1.block⟩,⟨hS.2.os,hS.2.tape,hS.2.output,hS.2.size,hS.2.block⟩⟩
     have hk5:=(HV.out.trans hS).1.bk Hk.out (by decide) (by decide)
     have c0:=hk5.cell 0
     have c1:=hk5.cell 1
     go_simp
     exact hK _ _ ((VisK.refl _ _)) rfl
   refine steps_cons (step_on rfl rfl fun _ w5 hS _ _ _ hval _ _ _ hK=>?_) ?_
   · have e32:_=_:=hval 4 32 (by kernel_rfl) rfl
     replace hS:(VB B) w2 w5:=⟨⟨hS.1.os,hS.1.tape,hS.1.output,hS.1.size,hS.1.block⟩,⟨hS.2.os,hS.2.tape,hS.2.output,hS.2.size,hS.2.block⟩⟩
     have hk5:=(HV.out.trans hS).1.bk Hk.out (by decide) (by decide)
     have c0:=hk5.cell 0
     have c1:=hk5.cell 1
     go_simp
     exact hK _ _ ((VisK.refl _ _)) rfl
   refine steps_cons (step_on rfl rfl fun _ w5 hS _ _ _ hval _ _ _ hK=>?_) ?_
   · have e33:_=_:=hval 5 33 (by kernel_rfl) rfl
     replace hS:(VB B) w2 w5:=⟨⟨hS.1.os,hS.1.tape,hS.1.output,hS.1.size,hS.1.block⟩,⟨hS.2.os,hS.2.tape,hS.2.output,hS.2.size,hS.2.block⟩⟩
     have hk5:=(HV.out.trans hS).1.bk Hk.out (by decide) (by decide)
     have c0:=hk5.cell 0
     have c1:=hk5.cell 1
     go_simp
     exact hK _ _ ((VisK.refl _ _)) rfl
   refine steps_cons (step_on rfl rfl fun ev _ _ _ _ hold _ _ _ _ hK=>?_) ?_
   · have e1:ev (.tmp 1)=.int .i64 (lo:Int):=hold 1 (by kernel_rfl)
     go_simp
     exact hK _ _ ((VisK.refl _ _)) rfl
   refine steps_cons (step_on rfl rfl fun ev _ _ _ _ hold _ _ _ _ hK=>?_) ?_
   · have e3:ev (.tmp 3)=.int .i64 (s:Int):=hold 3 (by kernel_rfl)
     go_simp
     exact hK _ _ ((VisK.refl _ _)) rfl
   refine steps_cons (step_on rfl rfl fun _ w5 hS _ _ _ hval _ _ _ hK=>?_) ?_
   · have e34:_=_:=hval 6 34 (by kernel_rfl) rfl
     have e35:_=_:=hval 7 35 (by kernel_rfl) rfl
     have e36:_=_:=hval 8 36 (by kernel_rfl) rfl
     replace hS:(VB B) w2 w5:=⟨⟨hS.1.os,hS.1.tape,hS.1.output,hS.1.size,hS.1.block⟩,⟨hS.2.os,hS.2.tape,hS.2.output,hS.2.size,hS.2.block⟩⟩
     go_simp
     refine (WaveRank_any B gv L lo s w5 (Hwv.out.vis (HV.out.trans hS).1) Hs.out (by rw [HN.out];omega) HL.out Hl.out).mono ?_
     rintro e w8 ⟨rfl,hv8⟩
     rw [HR1.out]
     exact hK _ _ hv8 rfl
   refine steps_cons (step_on rfl rfl fun _ _ _ _ _ _ hval _ _ _ hK=>?_) ?_
   · have e30:_=_:=hval 2 30 (by kernel_rfl) rfl
     have e37:_=_:=hval 9 37 (by kernel_rfl) rfl
     have h64:IntKind.i64.wrap ((q:Int)+(r1:Int))=((q+r1:Nat):Int):=by rw [IntKind.wrap_i64];omega
     go_simp
     exact hK _ _ (VisK.refl _ _) (by first | rfl | exact h64 | simp [is])
   refine steps_cons (step_on rfl rfl fun ev _ _ _ _ hold _ _ _ _ hK=>?_) ?_
   · have e0:ev (.tmp 0)=.pointer (some ⟨gk,0,none⟩):=hold 0 (by kernel_rfl)
     go_simp
     exact hK _ _ ((VisK.refl _ _)) rfl
   refine steps_cons (step_on rfl rfl fun ev _ _ _ _ hold _ _ _ _ hK=>?_) ?_
   · have e3:ev (.tmp 3)=.int .i64 (s:Int):=hold 3 (by kernel_rfl)
     go_simp
     exact hK _ _ ((VisK.refl _ _)) rfl
   refine steps_cons (step_on rfl rfl fun _ w5 hS _ _ _ hval _ _ _ hK=>?_) ?_
   · have e39:_=_:=hval 11 39 (by kernel_rfl) rfl
     have e40:_=_:=hval 12 40 (by kernel_rfl) rfl
     replace hS:(VB B) w2 w5:=⟨⟨hS.1.os,hS.1.tape,hS.1.output,hS.1.size,hS.1.block⟩,⟨hS.2.os,hS.2.tape,hS.2.output,hS.2.size,hS.2.block⟩⟩
     go_simp
     refine (WalkBelow_any B gk L s w5 (Hw.out.vis (HV.out.trans hS).1) Hs.out Hl.out).mono ?_
     rintro e w8 ⟨rfl,hb8⟩
     rw [Hb.out]
     exact hK _ _ (VisK.of_below hb8) rfl
   refine steps_cons (step_on rfl rfl fun ev _ _ _ _ hold _ _ _ _ hK=>?_) ?_
   · have e0:ev (.tmp 0)=.pointer (some ⟨gk,0,none⟩):=hold 0 (by kernel_rfl)
     go_simp
     exact hK _ _ ((VisK.refl _ _)) rfl
   refine steps_cons (step_on rfl rfl fun _ w5 hS _ _ _ hval _ _ _ hK=>?_) ?_
   · have e42:_=_:=hval 14 42 (by kernel_rfl) rfl
     replace hS:(VB B) w2 w5:=⟨⟨hS.1.os,hS.1.tape,hS.1.output,hS.1.size,hS.1.block⟩,⟨hS.2.os,hS.2.tape,hS.2.output,hS.2.size,hS.2.block⟩⟩
     have hk5:=(HV.out.trans hS).1.bk Hk.out (by decide) (by decide)
     have c0:=hk5.cell 0
     have c1:=hk5.cell 1
     go_simp
     exact hK _ _ ((VisK.refl _ _)) rfl
   refine steps_cons (step_on rfl rfl fun _ w5 hS _ _ _ hval _ _ _ hK=>?_) ?_
   · have e43:_=_:=hval 15 43 (by kernel_rfl) rfl
     replace hS:(VB B) w2 w5:=⟨⟨hS.1.os,hS.1.tape,hS.1.output,hS.1.size,hS.1.block⟩,⟨hS.2.os,hS.2.tape,hS.2.output,hS.2.size,hS.2.block⟩⟩
     have hk5:=(HV.out.trans hS).1.bk Hk.out (by decide) (by decide)
     have c0:=hk5.cell 0
     have c1:=hk5.cell 1
     go_simp
     exact hK _ _ ((VisK.refl _ _)) rfl
   refine steps_cons (step_on rfl rfl fun _ w5 hS _ _ _ hval _ _ _ hK=>?_) ?_
   · have e44:_=_:=hval 16 44 (by kernel_rfl) rfl
     replace hS:(VB B) w2 w5:=⟨⟨hS.1.os,hS.1.tape,hS.1.output,hS.1.size,hS.1.block⟩,⟨hS.2.os,hS.2.tape,hS.2.output,hS.2.size,hS.2.block⟩⟩
     have hk5:=(HV.out.trans hS).1.bk Hk.out (by decide) (by decide)
     have c0:=hk5.cell 0
     have c1:=hk5.cell 1
     go_simp
     exact hK _ _ ((VisK.refl _ _)) rfl
   refine steps_cons (step_on rfl rfl fun ev _ _ _ _ hold _ _ _ _ hK=>?_) ?_
   · have e2:ev (.tmp 2)=.int .i64 (hi:Int):=hold 2 (by kernel_rfl)
     go_simp
     exact hK _ _ ((VisK.refl _ _)) rfl
   refine steps_cons (step_on rfl rfl fun ev _ _ _ _ hold _ _ _ _ hK=>?_) ?_
   · have e3:ev (.tmp 3)=.int .i64 (s:Int):=hold 3 (by kernel_rfl)
     go_simp
     exact hK _ _ ((VisK.refl _ _)) rfl
   refine steps_cons (step_on rfl rfl fun _ w5 hS _ _ _ hval _ _ _ hK=>?_) ?_
   · have e45:_=_:=hval 17 45 (by kernel_rfl) rfl
     have e46:_=_:=hval 18 46 (by kernel_rfl) rfl
     have e47:_=_:=hval 19 47 (by kernel_rfl) rfl
     replace hS:(VB B) w2 w5:=⟨⟨hS.1.os,hS.1.tape,hS.1.output,hS.1.size,hS.1.block⟩,⟨hS.2.os,hS.2.tape,hS.2.output,hS.2.size,hS.2.block⟩⟩
     go_simp
     refine (WaveRank_any B gv L hi s w5 (Hwv.out.vis (HV.out.trans hS).1) Hs.out (by rw [HN.out];omega) HL.out Hl.out).mono ?_
     rintro e w8 ⟨rfl,hv8⟩
     rw [HR2.out]
     exact hK _ _ hv8 rfl
   refine steps_cons (step_on rfl rfl fun _ _ _ _ _ _ hval _ _ _ hK=>?_) ?_
   · have e41:_=_:=hval 13 41 (by kernel_rfl) rfl
     have e48:_=_:=hval 20 48 (by kernel_rfl) rfl
     have h64:IntKind.i64.wrap ((q:Int)+(r2:Int))=((q+r2:Nat):Int):=by rw [IntKind.wrap_i64];omega
     go_simp
     exact hK _ _ (VisK.refl _ _) (by first | rfl | exact h64 | simp [is])
   refine steps_cons (step_on rfl rfl fun _ _ _ _ _ _ hval _ _ _ hK=>?_) ?_
   · have e38:_=_:=hval 10 38 (by kernel_rfl) rfl
     go_simp
     exact hK _ _ ((VisK.refl _ _)) rfl
   refine steps_cons (step_on rfl rfl fun _ _ _ _ _ _ hval _ _ _ hK=>?_) ?_
   · have e49:_=_:=hval 21 49 (by kernel_rfl) rfl
     go_simp
     exact hK _ _ ((VisK.refl _ _)) rfl
   exact steps_nil
 · intro ev w6 hS hval
   replace hS:(VB B) w2 w6:=⟨⟨hS.1.os,hS.1.tape,hS.1.output,hS.1.size,hS.1.block⟩,⟨hS.2.os,hS.2.tape,hS.2.output,hS.2.size,hS.2.block⟩⟩
   have e8:ev (.tmp 8)=.int .i64 ((q+r1:Nat):Int):=hval 22 8 rfl
   have e9:ev (.tmp 9)=.int .i64 ((q+r2:Nat):Int):=hval 23 9 rfl
   simp only [putsOf,List.foldl_cons,List.foldl_nil,Act.put,List.setIfInBounds_toArray,List.set_cons_zero,List.set_cons_succ]
   rw [e8]
   rw [e9]
   clear hval
   go_wp2_with fail
   go_ret2
   exact ⟨rfl,HV.out.trans hS⟩
end Go.Proofs.YtipaccakmndkgaaGreat
