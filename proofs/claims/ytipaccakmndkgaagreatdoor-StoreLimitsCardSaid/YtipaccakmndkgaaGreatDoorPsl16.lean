/- The walks of walk's New, of, Len, Below. Conditions: at most 127 bytes; a symbol (below 257); places in order. The walks of perm's at and has (with their closures): where a row's pair stands, where a place's. Conditions: rows and places below 2^40, at most 2^40 pairs. The walk of walk's Narrow. Conditions: a symbol (below 257); places in order. The walks of perm's at and has. Conditions: the pairs are sorted by their rows (PermAt says how a Perm lies in memory). -/
import Derived.Test.YtipaccakmndkgaaGreatDoorPsl15
import Derived.Shelf.SlCmpFuncs.None
set_option linter.unusedVariables false
set_option linter.unusedSimpArgs false
set_option maxRecDepth 100000
set_option maxHeartbeats 2000000
namespace Go.Proofs.YtipaccakmndkgaaGreatDoor
open Go.RowKit
theorem WaveAt.mono {w:World} {B B' gv:Nat} {L:List Nat} (h:WaveAt w B gv L) (hB:B'≤B):WaveAt w B' gv L:=by
 obtain ⟨h0,S,v,h1,h2⟩:=h
 exact ⟨Nat.le_trans hB h0,S,v,h1,fun lv hl=>(h2 lv hl).mono hB⟩
def WalkAt (w:World) (B gk:Nat) (L:List Nat):Prop:=
 ∃gv gt,Bk w gk 99 #[.pointer (some ⟨gv,0,none⟩),.pointer (some ⟨gt,0,none⟩)]∧WaveAt w B gv L∧Bk w gt 232 (tcells L)
theorem WalkAt.vis {w w':World} {B gk:Nat} {L:List Nat} (h:WalkAt w B gk L) (k:Vis w w'):WalkAt w' B gk L:=by
 obtain ⟨gv,gt,h1,h2,h3⟩:=h
 exact ⟨gv,gt,k.bk h1 (by decide) (by decide),h2.vis k,k.bk h3 (by decide) (by decide)⟩
theorem WalkAt.mono {w:World} {B B' gk:Nat} {L:List Nat} (h:WalkAt w B gk L) (hB:B'≤B):WalkAt w B' gk L:=by
 obtain ⟨gv,gt,h1,h2,h3⟩:=h
 exact ⟨gv,gt,h1,h2.mono hB,h3⟩
theorem WaveLen_any (B gv:Nat) (L:List Nat) (w:World) (h:WaveAt w B gv L):
 Calls Tryz.prog 193 #[.pointer (some ⟨gv,0,none⟩)] w fun e w'=>e=.returned (.int .i64 (L.length:Int))∧w=w':=by
 obtain ⟨_,S,v,hb,_⟩:=h
 have c9:w.cell? ⟨gv,9,none⟩=some (.int .i64 (L.length:Int)):=by
  rw [hb.cell]
  have:=wcells_get S (L.length:Int) v
  simp [this]
 clear hb
 go_enter Tryz.func193,Tryz.ntmps193
 go_wp2
 go_ret
 exact ⟨rfl,rfl⟩
theorem WalkLen_any (B gk:Nat) (L:List Nat) (w:World) (h:WalkAt w B gk L):
 Calls Tryz.prog 126 #[.pointer (some ⟨gk,0,none⟩)] w fun e w'=>e=.returned (.int .i64 (L.length:Int))∧w=w':=by
 obtain ⟨gv,gt,h1,h2,h3⟩:=h
 have c0:=h1.cell 0
 clear h1 h3
 go_enter Tryz.func126,Tryz.ntmps126
 go_wp2_with fail
 refine (WaveLen_any B gv L _ h2).mono ?_
 rintro e w' ⟨rfl,rfl⟩
 go_wp2_with fail
 go_ret
 exact ⟨rfl,rfl⟩
theorem WalkBelow_any (B gk:Nat) (L:List Nat) (s:Nat) (w:World) (h:WalkAt w B gk L) (hs:s < 257) (hl:L.length≤1000):
 Calls Tryz.prog 145 #[.pointer (some ⟨gk,0,none⟩),.int .i64 (s:Int)] w fun e w'=>e=.returned (.int .i64 ((L.countP (fun x=>decide (x < s)):Nat):Int))∧Below w.heap.size w w':=by
 obtain ⟨gv,gt,h1,h2,h3⟩:=h
 have c1:=h1.cell 1
 clear h1 h2
 have H3:=lhd h3
 clear h3
 go_enter Tryz.func145,Tryz.ntmps145
 go_wp2_with fail
 refine (TallyBelow_any gt L s _ H3.out hs hl).mono ?_
 rintro e w' ⟨rfl,hb⟩
 obtain ⟨q,hq⟩:∃q,L.countP (fun x=>decide (x < s))=q:=⟨_,rfl⟩
 rw [hq]
 go_wp2_with fail
 go_ret
 exact ⟨by rw [hq];rfl,hb⟩
def narL (L:List Nat) (s k:Nat):Nat:=L.countP (fun x=>decide (x < s))+(L.take k).count s
end Go.Proofs.YtipaccakmndkgaaGreatDoor
namespace Go.Proofs.YtipaccakmndkgaaGreatDoor
open Go.RowKit Go.Shelf
def pairV (x:Nat×Nat):List Value:= [.int .i64 (x.1:Int),.int .i64 (x.2:Int)]
def pairsL (C:List (Nat×Nat)):List Value:=C.flatMap pairV
def rowK (C:List (Nat×Nat)) (k:Nat):Nat:=(C.getD k (0,0)).1
def posK (C:List (Nat×Nat)) (k:Nat):Nat:=(C.getD k (0,0)).2
theorem pairsL_len (C:List (Nat×Nat)):(pairsL C).length=C.length*2:=by
 induction C with
 | nil=>rfl
 | cons x l ih=>
   have:pairsL (x::l)=pairV x++pairsL l:=rfl
   rw [this,List.length_append,ih]
   simp [pairV]
   omega
theorem pairsL_get (C:List (Nat×Nat)) (k:Nat) (h:k < C.length):(pairsL C)[k*2]?=some (.int .i64 ((rowK C k:Nat):Int))∧(pairsL C)[k*2+1]?=some (.int .i64 ((posK C k:Nat):Int)):=by
 induction C generalizing k with
 | nil=>cases h
 | cons x l ih=>
   have e:pairsL (x::l)=pairV x++pairsL l:=rfl
   rcases k with _ | k
   · exact ⟨rfl,rfl⟩
   · have:=ih k (by simpa using h)
     rw [e,List.getElem?_append_right (by simp [pairV];omega),List.getElem?_append_right (by simp [pairV];omega)]
     rw [show (k+1)*2 -(pairV x).length=k*2 by simp [pairV];omega,show (k+1)*2+1 -(pairV x).length=k*2+1 by simp [pairV];omega]
     exact this
structure PRd (W:World) (gb gp:Nat) (A:Option Addr) (n c:Nat) (C:List (Nat×Nat)):Prop where
 box:W.cell? ⟨gb,0,none⟩=some (.pointer (some ⟨gp,0,none⟩))
 sl:W.cell? ⟨gp,1,none⟩=some (.slice A n c)
 rd:Rd W W.heap.size 2 A n (pairsL C)
theorem PRd.below {W W':World} {gb gp n c:Nat} {A:Option Addr} {C:List (Nat×Nat)} (h:PRd W gb gp A n c C) (hb:gb < W.heap.size) (hp:gp < W.heap.size) (k:Below W.heap.size W W'):PRd W' gb gp A n c C:=
 ⟨(k.cell hb).trans h.box,(k.cell hp).trans h.sl,(h.rd.below k).mono k.size⟩
theorem PRd.drewN {W:World} {gb gp n c:Nat} {A:Option Addr} {C:List (Nat×Nat)} (h:PRd W gb gp A n c C) (q:Nat):PRd (W.drewN q) gb gp A n c C:=⟨h.box,h.sl,h.rd⟩
theorem PRd.at {W:World} {gb gp n c:Nat} {A:Option Addr} {C:List (Nat×Nat)} (h:PRd W gb gp A n c C) {k:Nat} (hk:k < C.length):
 k < n∧∃b off,A=some ⟨b,off,none⟩∧W.cell? ⟨b,off+k*2,none⟩=some (.int .i64 ((rowK C k:Nat):Int))∧W.cell? ⟨b,off+k*2+1,none⟩=some (.int .i64 ((posK C k:Nat):Int)):=by
 have hl:=h.rd.1
 rw [pairsL_len] at hl
 have hn:k < n:=by omega
 obtain ⟨b,off,e,_,hc⟩:=h.rd.2 (by omega)
 obtain ⟨h1,h2⟩:=pairsL_get C k hk
 exact ⟨hn,b,off,e,hc _ _ h1,by rw [Nat.add_assoc];exact hc _ _ h2⟩
theorem PermAt1_any (gb gp:Nat) (A:Option Addr) (n c:Nat) (C:List (Nat×Nat)) (k row:Nat) (W:World) (h:PRd W gb gp A n c C) (hk:k < C.length):
 Calls Tryz.prog 184 #[.int .i64 (k:Int),.int .i64 (row:Int),.pointer (some ⟨gb,0,none⟩)] W fun e w'=>e=.returned (.int .i64 (Lib.compareInt (rowK C k:Nat) row))∧W=w':=by
 obtain ⟨hkn,b,off,rfl,h1,h2⟩:=h.at hk
 have c0:=h.box
 have c1:=h.sl
 have hcmp:=AnyG.cmp_Compare_int shCmp ((rowK C k:Nat):Int) (row:Int) W
 change Calls Tryz.prog 185 _ _ _ at hcmp
 generalize Lib.compareInt (rowK C k:Nat) row=r at hcmp⊢
 clear h h2
 go_enter Tryz.func184,Tryz.ntmps184
 go_wp2_with fail
 refine hcmp.mono ?_
 rintro e w' ⟨rfl,rfl⟩
 go_wp2_with fail
 go_ret
 exact ⟨rfl,rfl⟩
theorem PermHas1_any (gb gq gp:Nat) (A:Option Addr) (n c:Nat) (C:List (Nat×Nat)) (k pos:Nat) (W:World) (h:PRd W gb gp A n c C) (hq:W.cell? ⟨gq,0,none⟩=some (.int .i64 (pos:Int))) (hk:k < C.length):
 Calls Tryz.prog 187 #[.int .i64 (k:Int),.pointer (some ⟨gb,0,none⟩),.pointer (some ⟨gq,0,none⟩)] W fun e w'=>e=.returned (.bool (decide (posK C k=pos)))∧∃q,w'=W.drewN q:=by
 obtain ⟨hkn,b,off,rfl,h1,h2⟩:=h.at hk
 have c0:=h.box
 have c1:=h.sl
 obtain ⟨x,hx⟩:∃x,posK C k=x:=⟨_,rfl⟩
 rw [hx] at h2⊢
 clear h h1 hx
 by_cases e:x=pos
 · subst e
   go_enter Tryz.func187,Tryz.ntmps187
   go_wp2
   go_quiet (fail)
   go_wp2
   go_ret
   exact ⟨by simp,_,rfl⟩
 · have e1:((x:Int)==(pos:Int))=false:=by simp;omega
   go_enter Tryz.func187,Tryz.ntmps187
   go_wp2
   go_quiet (fail)
   go_wp2
   go_ret
   exact ⟨by simp [e],_,rfl⟩
end Go.Proofs.YtipaccakmndkgaaGreatDoor
namespace Go.Proofs.YtipaccakmndkgaaGreatDoor
open Go.RowKit
theorem WalkNarrow_any (B gk:Nat) (L:List Nat) (lo hi s:Nat) (w:World) (h:WalkAt w B gk L) (hs:s < 257) (h1:lo≤hi) (h2:hi≤L.length) (hL:∀x∈L,x < 257) (hl:L.length≤1000):
 Calls Tryz.prog 125 #[.pointer (some ⟨gk,0,none⟩),.int .i64 (lo:Int),.int .i64 (hi:Int),.int .i64 (s:Int)] w fun e w'=>e=.returned (.tuple #[.int .i64 ((narL L s lo:Nat):Int),.int .i64 ((narL L s hi:Nat):Int)])∧VB B w w':=by
 obtain ⟨N,hN⟩:∃N,L.length=N:=⟨_,rfl⟩
 obtain ⟨q,hq⟩:∃q,L.countP (fun x=>decide (x < s))=q:=⟨_,rfl⟩
 obtain ⟨r1,hr1⟩:∃q,(L.take lo).count s=q:=⟨_,rfl⟩
 obtain ⟨r2,hr2⟩:∃q,(L.take hi).count s=q:=⟨_,rfl⟩
 have b0:q≤1000:=by rw [←hq];exact Nat.le_trans List.countP_le_length hl
 have b1:r1≤1000:=by rw [←hr1];exact Nat.le_trans List.count_le_length (by rw [List.length_take];omega)
 have b2:r2≤1000:=by rw [←hr2];exact Nat.le_trans List.count_le_length (by rw [List.length_take];omega)
 unfold narL
 rw [hq,hr1,hr2]
 obtain ⟨gv,gt,k1,k2,k3⟩:=h
 have Hw:Hid (WalkAt w B gk L):=lhd ⟨gv,gt,k1,k2,k3⟩
 have Hk:=lhd k1
 have Hwv:=lhd k2
 have hl2:N≤1000:=by omega
 have h3:hi≤N:=by omega
 have Hs:=lhd hs
 have HL:=lhd hL
 have Hl:=lhd hl
 have HN:=lhd hN
 have Hb:=lhd hq
 have HR1:=lhd hr1
 have HR2:=lhd hr2
 have m1:max (lo:Int) 0=(lo:Int):=by omega
 have m2:min (lo:Int) (N:Int)=(lo:Int):=by omega
 have m3:min (hi:Int) (N:Int)=(hi:Int):=by omega
 have m4:max (hi:Int) (lo:Int)=(hi:Int):=by omega
 clear k1 k2 k3 hL hl hq hr1 hr2 h2
 go_enter Tryz.func125,Tryz.ntmps125
 go_wp2_with fail
 refine (SymIs_any s _ hs).mono ?_
 rintro e w1 ⟨rfl,hb1⟩
 have hv1:VB B w w1:=VisK.of_below hb1
 have Hv1:=lhd hv1
 clear hb1 hv1
 go_wp2_with fail
 refine (WalkLen_any B gk L _ (Hw.out.vis Hv1.out.1)).mono ?_
 rintro e w2 ⟨rfl,rfl⟩
 rw [HN.out]
 go_wp2_with fail
 refine (WalkLen_any B gk L _ (Hw.out.vis Hv1.out.1)).mono ?_
 rintro e w2 ⟨rfl,rfl⟩
 rw [HN.out]
 go_wp2_with fail
 have HV:=lhd Hv1.out
 clear Hv1 m1 m2 m3 m4 hN
 obtain ⟨w2,hw2⟩:∃w2,w2=w1:=⟨_,rfl⟩
 subst hw2
 refine wp_region_any (by kernel_rfl) ?_
 refine wpAny_loose2 [28,29,30,31,32,33,34,35,36,37,38,39,40,41,42,43,44,45,46,47,48,49,8,9] (VB B) (Vs [is (.pointer (some ⟨gk,0,none⟩)),is (.int .i64 (s:Int)),is (.int .i64 (q:Int)),is (.pointer (some ⟨gk,0,none⟩)),is (.pointer (some ⟨gk,0,none⟩)),is (.pointer (some ⟨gk,0,none⟩)),is (.pointer (some ⟨gv,0,none⟩)),is (.int .i64 (lo:Int)),is (.int .i64 (s:Int)),is (.int .i64 (r1:Int)),is (.int .i64 ((q+r1:Nat):Int)),is (.pointer (some ⟨gk,0,none⟩)),is (.int .i64 (s:Int)),is (.int .i64 (q:Int)),is (.pointer (some ⟨gk,0,none⟩)),is (.pointer (some ⟨gk,0,none⟩)),is (.pointer (some ⟨gk,0,none⟩)),is (.pointer (some ⟨gv,0,none⟩)),is (.int .i64 (hi:Int)),is (.int .i64 (s:Int)),is (.int .i64 (r2:Int)),is (.int .i64 ((q+r2:Nat):Int)),is (.int .i64 ((q+r1:Nat):Int)),is (.int .i64 ((q+r2:Nat):Int))]) _ _ rfl (by kernel_rfl) (VisK.refl _ _) (fun _ _=>VisK.trans) (stbs_all (by repeat' (first | exact stbs_is _ _ | exact stbs_any _ |(refine List.forall_mem_cons.2 ⟨?_,?_⟩)|(intro p hp;cases hp)))) ?_ ?_
 · refine steps_of ?_
   refine steps_cons (step_on rfl rfl fun ev _ _ _ _ hold _ _ _ _ hK=>?_) ?_
   · have e0:ev (.tmp 0)=.pointer (some ⟨gk,0,none⟩):=hold 0 (by kernel_rfl)
     go_simp
     exact hK _ _ ((VisK.refl _ _)) rfl
   refine steps_cons (step_on rfl rfl fun ev _ _ _ _ hold _ _ _ _ hK=>?_) ?_
   · have e3:ev (.tmp 3)=.int .i64 (s:Int):=hold 3 (by kernel_rfl)
     go_simp
     exact hK _ _ ((VisK.refl _ _)) rfl
   refine steps_cons (step_on rfl rfl fun _ w5 hS _ _ _ hval _ _ _ hK=>?_) ?_
   · have e28:_=_:=hval 0 28 (by kernel_rfl) rfl
     have e29:_=_:=hval 1 29 (by kernel_rfl) rfl
     replace hS:(VB B) w2 w5:=⟨⟨hS.1.os,hS.1.tape,hS.1.output,hS.1.size,hS.1.block⟩,⟨hS.2.os,hS.2.tape,hS.2.output,hS.2.size,hS.2.block⟩⟩
     go_simp
     refine (WalkBelow_any B gk L s w5 (Hw.out.vis (HV.out.trans hS).1) Hs.out Hl.out).mono ?_
     rintro e w8 ⟨rfl,hb8⟩
     rw [Hb.out]
     exact hK _ _ (VisK.of_below hb8) rfl
   refine steps_cons (step_on rfl rfl fun ev _ _ _ _ hold _ _ _ _ hK=>?_) ?_
   · have e0:ev (.tmp 0)=.pointer (some ⟨gk,0,none⟩):=hold 0 (by kernel_rfl)
     go_simp
     exact hK _ _ ((VisK.refl _ _)) rfl
   refine steps_cons (step_on rfl rfl fun _ w5 hS _ _ _ hval _ _ _ hK=>?_) ?_
   · have e31:_=_:=hval 3 31 (by kernel_rfl) rfl
     replace hS:(VB B) w2 w5:=⟨⟨hS.1.os,hS.1.tape,hS.1.output,hS.1.size,hS.1.block⟩,⟨hS.2.os,hS.2.tape,hS.2.output,hS.2.size,hS.2.block⟩⟩
     have hk5:=(HV.out.trans hS).1.bk Hk.out (by decide) (by decide)
     have c0:=hk5.cell 0
     have c1:=hk5.cell 1
     go_simp
     exact hK _ _ ((VisK.refl _ _)) rfl
   refine steps_cons (step_on rfl rfl fun _ w5 hS _ _ _ hval _ _ _ hK=>?_) ?_
   · have e32:_=_:=hval 4 32 (by kernel_rfl) rfl
     replace hS:(VB B) w2 w5:=⟨⟨hS.1.os,hS.1.tape,hS.1.output,hS.1.size,hS.1.block⟩,⟨hS.2.os,hS.2.tape,hS.2.output,hS.2.size,hS.2.block⟩⟩
     have hk5:=(HV.out.trans hS).1.bk Hk.out (by decide) (by decide)
     have c0:=hk5.cell 0
     have c1:=hk5.cell 1
     go_simp
     exact hK _ _ ((VisK.refl _ _)) rfl
   refine steps_cons (step_on rfl rfl fun _ w5 hS _ _ _ hval _ _ _ hK=>?_) ?_
   · have e33:_=_:=hval 5 33 (by kernel_rfl) rfl
     replace hS:(VB B) w2 w5:=⟨⟨hS.1.os,hS.1.tape,hS.1.output,hS.1.size,hS.1.block⟩,⟨hS.2.os,hS.2.tape,hS.2.output,hS.2.size,hS.2.block⟩⟩
     have hk5:=(HV.out.trans hS).1.bk Hk.out (by decide) (by decide)
     have c0:=hk5.cell 0
     have c1:=hk5.cell 1
     go_simp
     exact hK _ _ ((VisK.refl _ _)) rfl
   refine steps_cons (step_on rfl rfl fun ev _ _ _ _ hold _ _ _ _ hK=>?_) ?_
   · have e1:ev (.tmp 1)=.int .i64 (lo:Int):=hold 1 (by kernel_rfl)
     go_simp
     exact hK _ _ ((VisK.refl _ _)) rfl
   refine steps_cons (step_on rfl rfl fun ev _ _ _ _ hold _ _ _ _ hK=>?_) ?_
   · have e3:ev (.tmp 3)=.int .i64 (s:Int):=hold 3 (by kernel_rfl)
     go_simp
     exact hK _ _ ((VisK.refl _ _)) rfl
   refine steps_cons (step_on rfl rfl fun _ w5 hS _ _ _ hval _ _ _ hK=>?_) ?_
   · have e34:_=_:=hval 6 34 (by kernel_rfl) rfl
     have e35:_=_:=hval 7 35 (by kernel_rfl) rfl
     have e36:_=_:=hval 8 36 (by kernel_rfl) rfl
     replace hS:(VB B) w2 w5:=⟨⟨hS.1.os,hS.1.tape,hS.1.output,hS.1.size,hS.1.block⟩,⟨hS.2.os,hS.2.tape,hS.2.output,hS.2.size,hS.2.block⟩⟩
     go_simp
     refine (WaveRank_any B gv L lo s w5 (Hwv.out.vis (HV.out.trans hS).1) Hs.out (by rw [HN.out];omega) HL.out Hl.out).mono ?_
     rintro e w8 ⟨rfl,hv8⟩
     rw [HR1.out]
     exact hK _ _ hv8 rfl
   refine steps_cons (step_on rfl rfl fun _ _ _ _ _ _ hval _ _ _ hK=>?_) ?_
   · have e30:_=_:=hval 2 30 (by kernel_rfl) rfl
     have e37:_=_:=hval 9 37 (by kernel_rfl) rfl
     have h64:IntKind.i64.wrap ((q:Int)+(r1:Int))=((q+r1:Nat):Int):=by rw [IntKind.wrap_i64];omega
     go_simp
     exact hK _ _ (VisK.refl _ _) (by first | rfl | exact h64 | simp [is])
   refine steps_cons (step_on rfl rfl fun ev _ _ _ _ hold _ _ _ _ hK=>?_) ?_
   · have e0:ev (.tmp 0)=.pointer (some ⟨gk,0,none⟩):=hold 0 (by kernel_rfl)
     go_simp
     exact hK _ _ ((VisK.refl _ _)) rfl
   refine steps_cons (step_on rfl rfl fun ev _ _ _ _ hold _ _ _ _ hK=>?_) ?_
   · have e3:ev (.tmp 3)=.int .i64 (s:Int):=hold 3 (by kernel_rfl)
     go_simp
     exact hK _ _ ((VisK.refl _ _)) rfl
   refine steps_cons (step_on rfl rfl fun _ w5 hS _ _ _ hval _ _ _ hK=>?_) ?_
   · have e39:_=_:=hval 11 39 (by kernel_rfl) rfl
     have e40:_=_:=hval 12 40 (by kernel_rfl) rfl
     replace hS:(VB B) w2 w5:=⟨⟨hS.1.os,hS.1.tape,hS.1.output,hS.1.size,hS.1.block⟩,⟨hS.2.os,hS.2.tape,hS.2.output,hS.2.size,hS.2.block⟩⟩
     go_simp
     refine (WalkBelow_any B gk L s w5 (Hw.out.vis (HV.out.trans hS).1) Hs.out Hl.out).mono ?_
     rintro e w8 ⟨rfl,hb8⟩
     rw [Hb.out]
     exact hK _ _ (VisK.of_below hb8) rfl
   refine steps_cons (step_on rfl rfl fun ev _ _ _ _ hold _ _ _ _ hK=>?_) ?_
   · have e0:ev (.tmp 0)=.pointer (some ⟨gk,0,none⟩):=hold 0 (by kernel_rfl)
     go_simp
     exact hK _ _ ((VisK.refl _ _)) rfl
   refine steps_cons (step_on rfl rfl fun _ w5 hS _ _ _ hval _ _ _ hK=>?_) ?_
   · have e42:_=_:=hval 14 42 (by kernel_rfl) rfl
     replace hS:(VB B) w2 w5:=⟨⟨hS.1.os,hS.1.tape,hS.1.output,hS.1.size,hS.1.block⟩,⟨hS.2.os,hS.2.tape,hS.2.output,hS.2.size,hS.2.block⟩⟩
     have hk5:=(HV.out.trans hS).1.bk Hk.out (by decide) (by decide)
     have c0:=hk5.cell 0
     have c1:=hk5.cell 1
     go_simp
     exact hK _ _ ((VisK.refl _ _)) rfl
   refine steps_cons (step_on rfl rfl fun _ w5 hS _ _ _ hval _ _ _ hK=>?_) ?_
   · have e43:_=_:=hval 15 43 (by kernel_rfl) rfl
     replace hS:(VB B) w2 w5:=⟨⟨hS.1.os,hS.1.tape,hS.1.output,hS.1.size,hS.1.block⟩,⟨hS.2.os,hS.2.tape,hS.2.output,hS.2.size,hS.2.block⟩⟩
     have hk5:=(HV.out.trans hS).1.bk Hk.out (by decide) (by decide)
     have c0:=hk5.cell 0
     have c1:=hk5.cell 1
     go_simp
     exact hK _ _ ((VisK.refl _ _)) rfl
   refine steps_cons (step_on rfl rfl fun _ w5 hS _ _ _ hval _ _ _ hK=>?_) ?_
   · have e44:_=_:=hval 16 44 (by kernel_rfl) rfl
     replace hS:(VB B) w2 w5:=⟨⟨hS.1.os,hS.1.tape,hS.1.output,hS.1.size,hS.1.block⟩,⟨hS.2.os,hS.2.tape,hS.2.output,hS.2.size,hS.2.block⟩⟩
     have hk5:=(HV.out.trans hS).1.bk Hk.out (by decide) (by decide)
     have c0:=hk5.cell 0
     have c1:=hk5.cell 1
     go_simp
     exact hK _ _ ((VisK.refl _ _)) rfl
   refine steps_cons (step_on rfl rfl fun ev _ _ _ _ hold _ _ _ _ hK=>?_) ?_
   · have e2:ev (.tmp 2)=.int .i64 (hi:Int):=hold 2 (by kernel_rfl)
     go_simp
     exact hK _ _ ((VisK.refl _ _)) rfl
   refine steps_cons (step_on rfl rfl fun ev _ _ _ _ hold _ _ _ _ hK=>?_) ?_
   · have e3:ev (.tmp 3)=.int .i64 (s:Int):=hold 3 (by kernel_rfl)
     go_simp
     exact hK _ _ ((VisK.refl _ _)) rfl
   refine steps_cons (step_on rfl rfl fun _ w5 hS _ _ _ hval _ _ _ hK=>?_) ?_
   · have e45:_=_:=hval 17 45 (by kernel_rfl) rfl
     have e46:_=_:=hval 18 46 (by kernel_rfl) rfl
     have e47:_=_:=hval 19 47 (by kernel_rfl) rfl
     replace hS:(VB B) w2 w5:=⟨⟨hS.1.os,hS.1.tape,hS.1.output,hS.1.size,hS.1.block⟩,⟨hS.2.os,hS.2.tape,hS.2.output,hS.2.size,hS.2.block⟩⟩
     go_simp
     refine (WaveRank_any B gv L hi s w5 (Hwv.out.vis (HV.out.trans hS).1) Hs.out (by rw [HN.out];omega) HL.out Hl.out).mono ?_
     rintro e w8 ⟨rfl,hv8⟩
     rw [HR2.out]
     exact hK _ _ hv8 rfl
   refine steps_cons (step_on rfl rfl fun _ _ _ _ _ _ hval _ _ _ hK=>?_) ?_
   · have e41:_=_:=hval 13 41 (by kernel_rfl) rfl
     have e48:_=_:=hval 20 48 (by kernel_rfl) rfl
     have h64:IntKind.i64.wrap ((q:Int)+(r2:Int))=((q+r2:Nat):Int):=by rw [IntKind.wrap_i64];omega
     go_simp
     exact hK _ _ (VisK.refl _ _) (by first | rfl | exact h64 | simp [is])
   refine steps_cons (step_on rfl rfl fun _ _ _ _ _ _ hval _ _ _ hK=>?_) ?_
   · have e38:_=_:=hval 10 38 (by kernel_rfl) rfl
     go_simp
     exact hK _ _ ((VisK.refl _ _)) rfl
   refine steps_cons (step_on rfl rfl fun _ _ _ _ _ _ hval _ _ _ hK=>?_) ?_
   · have e49:_=_:=hval 21 49 (by kernel_rfl) rfl
     go_simp
     exact hK _ _ ((VisK.refl _ _)) rfl
   exact steps_nil
 · intro ev w6 hS hval
   replace hS:(VB B) w2 w6:=⟨⟨hS.1.os,hS.1.tape,hS.1.output,hS.1.size,hS.1.block⟩,⟨hS.2.os,hS.2.tape,hS.2.output,hS.2.size,hS.2.block⟩⟩
   have e8:ev (.tmp 8)=.int .i64 ((q+r1:Nat):Int):=hval 22 8 rfl
   have e9:ev (.tmp 9)=.int .i64 ((q+r2:Nat):Int):=hval 23 9 rfl
   simp only [putsOf,List.foldl_cons,List.foldl_nil,Act.put,List.setIfInBounds_toArray,List.set_cons_zero,List.set_cons_succ]
   rw [e8]
   rw [e9]
   clear hval
   go_wp2_with fail
   go_ret2
   exact ⟨rfl,HV.out.trans hS⟩
end Go.Proofs.YtipaccakmndkgaaGreatDoor
namespace Go.Proofs.YtipaccakmndkgaaGreatDoor
open Go.RowKit Go.Shelf
open Go.Sort (Holds)
structure PermAt (w:World) (B gp ga:Nat) (vl vo vt vf:Value) (R P:Nat) (ks:List Nat) (C:List (Nat×Nat)) (tk:List Bool) (fr:List Nat):Prop where
 blk:Bk w gp 157 #[.pointer (some ⟨ga,0,none⟩),vl,vo,.int .i64 (R:Int),.int .i64 (P:Int)]
 lrow:w.ownsRow B 159 2 vl C.length (pairsL C)
 orow:w.ownsRow B 3 1 vo ks.length (ks.map sv)
 ar:Bk w ga 217 #[vt,vf,.int .i64 268435456]
 trow:w.ownsRow B 4 1 vt tk.length (tk.map Value.bool)
 frow:w.ownsRow B 3 1 vf fr.length (fr.map sv)
 apart:vo.ownBlock=none∨vo.ownBlock≠vf.ownBlock
 lt:∀k∈ks,k < C.length
 lo:B≤gp∧B≤ga
theorem cnt_lt {l:List Nat} {f:Nat→Nat} (h:l.Pairwise (fun a b=>f a < f b)) (r:Nat):∀(j x:Nat),l[j]?=some x→(f x < r↔j < l.countP fun k=>decide (f k < r)):=by
 induction l with
 | nil=>intro j x h;cases h
 | cons y l ih=>
   obtain ⟨h1,h2⟩:=List.pairwise_cons.1 h
   intro j x hj
   rw [List.countP_cons]
   by_cases hy:f y < r
   · rcases j with _ | j
     · simp at hj
       subst hj
       simp [hy]
     · have:=ih h2 j x (by simpa using hj)
       simp only [hy,decide_true,if_true]
       omega
   · have h0:(l.countP fun k=>decide (f k < r))=0:=by
        rw [List.countP_eq_zero]
        intro a ha
        have:=h1 a ha
        simp
        omega
     rcases j with _ | j
     · simp at hj
       subst hj
       simp [hy,h0]
     · have hx:=h1 x (List.mem_of_getElem? (by simpa using hj))
       simp only [h0,hy,decide_false]
       simp
       omega
theorem cnt_found {l:List Nat} {f:Nat→Nat} (h:l.Pairwise (fun a b=>f a < f b)) (r:Nat):(∃x,l[l.countP fun k=>decide (f k < r)]?=some x∧f x=r)↔∃k∈l,f k=r:=by
 constructor
 · rintro ⟨x,h1,h2⟩
   exact ⟨x,List.mem_of_getElem? h1,h2⟩
 · rintro ⟨k,hk,rfl⟩
   obtain ⟨j,hj,rfl⟩:=List.getElem_of_mem hk
   have e1:=List.getElem?_eq_getElem hj
   have h1:=cnt_lt h (f l[j]) j _ e1
   have hle:¬j < l.countP fun k=>decide (f k < f l[j]):=fun e=>by have:=h1.2 e;omega
   rcases Nat.lt_or_ge (l.countP fun k=>decide (f k < f l[j])) j with h2 | h2
   · have hlt:(l.countP fun k=>decide (f k < f l[j])) < l.length:=by omega
     have e2:=List.getElem?_eq_getElem hlt
     have h3:=cnt_lt h (f l[j]) _ _ e2
     have h4:¬f l[l.countP fun k=>decide (f k < f l[j])] < f l[j]:=fun e=>by have:=h3.1 e;omega
     have h5:=List.pairwise_iff_getElem.1 h _ _ hlt hj h2
     omega
   · have e:(l.countP fun k=>decide (f k < f l[j]))=j:=by omega
     rw [e]
     exact ⟨_,e1,rfl⟩
def ordA (c:Nat) (ks:List Nat):Array (Fin (c+1)):=(ks.map fun k=>(⟨k %(c+1),Nat.mod_lt _ (Nat.succ_pos c)⟩:Fin (c+1))).toArray
theorem ordA_get {c:Nat} {ks:List Nat} (h:∀k∈ks,k < c+1) {j k:Nat} (hj:ks[j]?=some k):((ordA c ks)[j]!).val=k:=by
 have hl:j < ks.length:=(List.getElem?_eq_some_iff.1 hj).1
 have hk:=h k (List.mem_of_getElem? hj)
 have e:ks[j]=k:=by rw [List.getElem?_eq_getElem hl] at hj;injection hj
 rw [getB _ _ (by simpa [ordA] using hl)]
 simp [ordA,e,Nat.mod_eq_of_lt hk]
theorem ordA_count {c:Nat} {ks:List Nat} (h:∀k∈ks,k < c+1) (p:Nat→Bool):(ordA c ks).toList.countP (fun x=>p x.val)=ks.countP p:=by
 unfold ordA
 rw [List.countP_map]
 refine List.countP_congr fun k hk=>?_
 simp [Nat.mod_eq_of_lt (h k hk)]
theorem ordA_holds {w:World} {c g:Nat} {ks:List Nat} {cs:Array Value} (hb:Bk w g 3 cs) (h:∀k∈ks,k < c+1) (ht:cs.toList.take ks.length=ks.map sv):Holds (encF c) w g 0 (ordA c ks):=by
 intro j hj
 have hl:j < ks.length:=by simpa [ordA] using hj
 rw [Nat.zero_add]
 refine ⟨?_,hb.frozen j⟩
 have e:(cs.toList.take ks.length)[j]?=(ks.map sv)[j]?:=by rw [ht]
 rw [List.getElem?_take,if_pos hl,List.getElem?_map,List.getElem?_eq_getElem hl,Array.getElem?_toList] at e
 rw [hb.cell,e]
 have:=ordA_get h (List.getElem?_eq_getElem hl)
 simp [encF,this,sv]
theorem sw_below {w w':World} {c g:Nat} {d:Array (Fin (c+1))} (hH:Holds (encF c) w g 0 d) (h:SW (encF c) w g 0 d w'):Below w.heap.size w w':=by
 obtain ⟨n,os,rfl⟩:=h
 unfold sortWorld
 have e:Go.Sort.putRow (encF c) (Go.Sort.ahead w n) g 0 d=Go.Sort.ahead w n:=Go.Sort.putRow_self (encF c) _ g 0 d hH
 rw [e]
 exact ⟨rfl,rfl,rfl,by show w.heap.size≤(w.heap++os).size;simp,fun k hk=>Go.Sort.heap_grow_old _ _ hk⟩
theorem cmp_neg (x y:Int):Lib.compareInt x y < 0↔x < y:=by
 unfold Lib.compareInt
 split
 · simp [*]
 · split <;> simp [*]
theorem cmp_zero (x y:Int):Lib.compareInt x y=0↔x=y:=by
 unfold Lib.compareInt
 split
 · simp;omega
 · split
   · simp;omega
   · simp;omega
section
variable {w : World} {B gp ga : Nat} {vl vo vt vf : Value} {R P : Nat} {ks : List Nat} {C : List (Nat × Nat)} {tk : List Bool} {fr : List Nat}
theorem PermAt.prd (h:PermAt w B gp ga vl vo vt vf R P ks C tk fr) {gb:Nat} {w':World} (hb:w'.cell? ⟨gb,0,none⟩=some (.pointer (some ⟨gp,0,none⟩))) (k:Below w.heap.size w w'):∃A n c,vl=.slice A n c∧PRd w' gb gp A n c C:=by
 obtain ⟨A,c,e,_⟩:=own_shape h.lrow
 refine ⟨A,C.length,c,e,hb,?_,?_⟩
 · have:=(h.blk.below k h.blk.lt).cell 1
   rw [e] at this
   exact this
 · have h1:=own_below h.lrow k
   rw [e] at h1
   exact Rd.of_own h1
end
theorem at_fin {ks:List Nat} {C:List (Nat×Nat)} {c row:Nat} (hc:C.length=c+1) (hlt:∀k∈ks,k < C.length) (hs:ks.Pairwise (fun a b=>rowK C a < rowK C b)):
 ((ordA c ks).toList.countP (fun x=>decide (Lib.compareInt (rowK C x.val:Nat) row < 0)))=ks.countP (fun k=>decide (rowK C k < row))∧
 (decide (((ordA c ks).toList.countP (fun x=>decide (Lib.compareInt (rowK C x.val:Nat) row < 0))) < (ordA c ks).size)&&decide (Lib.compareInt (rowK C ((ordA c ks)[((ordA c ks).toList.countP (fun x=>decide (Lib.compareInt (rowK C x.val:Nat) row < 0)))]!).val:Nat) row=0))=decide (∃k∈ks,rowK C k=row):=by
 have hlt':∀k∈ks,k < c+1:=fun k hk=>by rw [←hc];exact hlt k hk
 have e1:(ordA c ks).toList.countP (fun x=>decide (Lib.compareInt (rowK C x.val:Nat) row < 0))=ks.countP (fun k=>decide (rowK C k < row)):=by
  rw [←ordA_count hlt' (fun k=>decide (rowK C k < row))]
  congr 1
  funext x
  rw [decide_eq_decide,cmp_neg]
  omega
 refine ⟨e1,?_⟩
 rw [e1,Bool.eq_iff_iff]
 simp only [Bool.and_eq_true,decide_eq_true_eq,cmp_zero]
 rw [←cnt_found (f:=rowK C) hs row]
 constructor
 · rintro ⟨h1,h2⟩
   have hl:(ks.countP fun k=>decide (rowK C k < row)) < ks.length:=by simpa [ordA] using h1
   refine ⟨_,List.getElem?_eq_getElem hl,?_⟩
   rw [ordA_get hlt' (List.getElem?_eq_getElem hl)] at h2
   omega
 · rintro ⟨x,h1,h2⟩
   have hl:=(List.getElem?_eq_some_iff.1 h1).1
   refine ⟨by simpa [ordA] using hl,?_⟩
   rw [ordA_get hlt' h1]
   omega
theorem PermAt_any (B gp ga:Nat) (vl vo vt vf:Value) (R P:Nat) (ks:List Nat) (C:List (Nat×Nat)) (tk:List Bool) (fr:List Nat) (row:Nat) (w:World) (h:PermAt w B gp ga vl vo vt vf R P ks C tk fr) (hs:ks.Pairwise (fun a b=>rowK C a < rowK C b)) (hk:ks.length≤1099511627776):
 Calls Tryz.prog 120 #[.pointer (some ⟨gp,0,none⟩),.int .i64 (row:Int)] w fun e w'=>e=.returned (.tuple #[.int .i64 ((ks.countP (fun k=>decide (rowK C k < row)):Nat):Int),.bool (decide (∃k∈ks,rowK C k=row))])∧Below w.heap.size w w':=by
 have hgp:=h.blk.lt
 have hbx:Below w.heap.size w (w.alloc (.cells #[.pointer (some ⟨gp,0,none⟩)] 85)):=(Below.refl _ _).alloc (Nat.le_refl _) _
 have c2:w.cell? ⟨gp,2,none⟩=some vo:=(h.blk.cell 2).trans rfl
 have hcall:∀A n c,vo=.slice A n c→Calls Tryz.prog 183 #[.slice A n c,.int .i64 (row:Int),.func (.func 184) #[] #[.pointer (some ⟨w.heap.size,0,none⟩)]] (w.alloc (.cells #[.pointer (some ⟨gp,0,none⟩)] 85)) fun e w'=>e=.returned (.tuple #[.int .i64 ((ks.countP (fun k=>decide (rowK C k < row)):Nat):Int),.bool (decide (∃k∈ks,rowK C k=row))])∧Below w.heap.size w w':=by
  intro A n c ev
  rcases Nat.eq_zero_or_pos ks.length with h0 | h0
  · have hke:ks= []:=List.eq_nil_of_length_eq_zero h0
    obtain ⟨A9,c9,e9,_⟩:=own_shape h.orow
    rw [ev] at e9
    injection e9 with _ e9 _
    rw [h0] at e9
    subst e9
    subst hke
    refine (Any.slices_BinarySearchFunc_none shBin A c (.int .i64 (row:Int)) (.func (.func 184) #[] #[.pointer (some ⟨w.heap.size,0,none⟩)]) _).mono ?_
    rintro e w' ⟨rfl,rfl⟩
    exact ⟨by simp,hbx⟩
  · rcases h.orow.2 with ⟨_,e⟩|⟨g,cap,cs,e,hBg,hg,hn,hm,hz,ht⟩
    · omega
    · rw [ev] at e
      injection e with e1 e2 e3
      subst e1 e2 e3
      rw [Nat.mul_one] at ht
      obtain ⟨k0,hk0⟩:∃k,k∈ks:=by
       obtain ⟨x,hx⟩:=List.exists_mem_of_length_pos h0
       exact ⟨x,hx⟩
      obtain ⟨cc,hcc⟩:∃cc,C.length=cc+1:=⟨C.length - 1,by have:=h.lt k0 hk0;omega⟩
      have hlt':∀k∈ks,k < cc+1:=fun k hk=>by rw [←hcc];exact h.lt k hk
      have hgb:Bk w g 3 cs:=hg
      have hgA:=hgb.below hbx hgb.lt
      have hH:=ordA_holds hgA hlt' ht
      have hbox:(w.alloc (.cells #[.pointer (some ⟨gp,0,none⟩)] 85)).cell? ⟨w.heap.size,0,none⟩=some (.pointer (some ⟨gp,0,none⟩)):=(Bk.new w 85 #[.pointer (some ⟨gp,0,none⟩)]).cell 0
      have hcmp:CmpLaysT Tryz.prog 184 #[.pointer (some ⟨w.heap.size,0,none⟩)] (encF cc) (.int .i64 (row:Int)) (fun x=>Lib.compareInt (rowK C x.val:Nat) row) g 0 (ordA cc ks).size (w.alloc (.cells #[.pointer (some ⟨gp,0,none⟩)] 85)):=by
       intro q os dk hdk x
       have hk9:=sort_keep (enc:=encF cc) hgA.lt 0 q dk os
       obtain ⟨A,n,c,e,hp⟩:=h.prd hbox hbx
       have hp9:PRd (sortWorld (encF cc) (w.alloc (.cells #[.pointer (some ⟨gp,0,none⟩)] 85)) g 0 q dk os) w.heap.size gp A n c C:=by
          refine ⟨?_,?_,?_⟩
          · exact (hk9.cell (p:=⟨w.heap.size,0,none⟩) (by simp) (fun e=>by have:=hgb.lt;have e':w.heap.size=g:=e;omega)).trans hp.box
          · exact (hk9.cell (p:=⟨gp,1,none⟩) (by simp;omega) (Bk.ne h.blk hgb (by decide))).trans hp.sl
          · have hl1:=own_below h.lrow hbx
            have hl2:=own_same (w':=sortWorld (encF cc) (w.alloc (.cells #[.pointer (some ⟨gp,0,none⟩)] 85)) g 0 q dk os) hl1 fun b cs' _ hb'=>hk9.bk hb' (Bk.ne hb' hgA (by decide))
            obtain ⟨A9,c9,e9,_⟩:=own_shape h.lrow
            rw [e] at e9 hl2
            injection e9 with e91 e92 e93
            subst e92
            exact Rd.of_own hl2
       exact (PermAt1_any w.heap.size gp A n c C x.val row _ hp9 (by rw [hcc];exact x.isLt)).mono fun _ _ ⟨h1,h2⟩=>⟨h1,0,#[],by rw [←h2,Go.Sort.grow_empty];rfl⟩
      have hmono:∀a b,a≤b→b < (ordA cc ks).size→Lib.compareInt (rowK C ((ordA cc ks)[b]!).val:Nat) row < 0→Lib.compareInt (rowK C ((ordA cc ks)[a]!).val:Nat) row < 0:=by
       intro a b hab hb hlt
       have hb':b < ks.length:=by simpa [ordA] using hb
       rw [ordA_get hlt' (List.getElem?_eq_getElem hb'),cmp_neg] at hlt
       rw [ordA_get hlt' (List.getElem?_eq_getElem (show a < ks.length by omega)),cmp_neg]
       rcases Nat.eq_or_lt_of_le hab with rfl | hab
       · exact hlt
       · have:=List.pairwise_iff_getElem.1 hs a b (by omega) hb' hab
         omega
      have hz9:(ordA cc ks).size=ks.length:=by simp [ordA]
      have hB:=Any.slices_BinarySearchFunc shBin (encF cc) (oneCell_encF cc) (.int .i64 (row:Int)) (fun x=>Lib.compareInt (rowK C x.val:Nat) row) 184 #[.pointer (some ⟨w.heap.size,0,none⟩)] g 0 c (ordA cc ks) (w.alloc (.cells #[.pointer (some ⟨gp,0,none⟩)] 85)) (enters_of Tryz.func184 (by kernel_rfl) rfl) hcmp hH hgA.lt (by rw [hz9];omega) hmono
      obtain ⟨f1,f2⟩:=at_fin (row:=row) hcc h.lt hs
      rw [f1] at f2
      rw [f1,f2] at hB
      rw [hz9] at hB
      refine hB.mono ?_
      rintro e w' ⟨rfl,hsw⟩
      exact ⟨rfl,hbx.trans ((sw_below hH hsw).mono (by simp))⟩
 obtain ⟨A,c,e,_⟩:=own_shape h.orow
 have hc:=hcall _ _ _ e
 rw [e] at c2
 obtain ⟨i,hi⟩:∃i,ks.countP (fun k=>decide (rowK C k < row))=i:=⟨_,rfl⟩
 obtain ⟨fd,hfd⟩:∃b,decide (∃k∈ks,rowK C k=row)=b:=⟨_,rfl⟩
 rw [hi,hfd] at hc
 rw [hi,hfd]
 clear hcall h hs hi hfd hbx e
 go_enter Tryz.func120,Tryz.ntmps120
 go_wp2_with fail
 refine hc.mono ?_
 rintro e w' ⟨rfl,hb⟩
 go_wp2_with fail
 go_ret2
 exact ⟨rfl,hb⟩
end Go.Proofs.YtipaccakmndkgaaGreatDoor
