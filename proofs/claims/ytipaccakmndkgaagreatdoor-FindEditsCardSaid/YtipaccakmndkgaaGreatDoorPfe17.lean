/- The walks of walk's New, of, Len, Below. Conditions: at most 127 bytes; a symbol (below 257); places in order. The walks of perm's at and has (with their closures): where a row's pair stands, where a place's. Conditions: rows and places below 2^40, at most 2^40 pairs. -/
import Derived.Test.YtipaccakmndkgaaGreatDoorPfe16
namespace Go.Proofs.YtipaccakmndkgaaGreatDoor
open Go.RowKit
set_option linter.unusedVariables false
set_option linter.unusedSimpArgs false
theorem WaveAt.mono {w:World} {B B' gv:Nat} {L:List Nat} (h:WaveAt w B gv L) (hB:B'≤B):WaveAt w B' gv L:=by
 obtain ⟨h0,S,v,h1,h2⟩:=h
 exact ⟨Nat.le_trans hB h0,S,v,h1,fun lv hl=>(h2 lv hl).mono hB⟩
def WalkAt (w:World) (B gk:Nat) (L:List Nat):Prop:=
 ∃gv gt,Bk w gk 99 #[.pointer (some ⟨gv,0,none⟩),.pointer (some ⟨gt,0,none⟩)]∧WaveAt w B gv L∧Bk w gt 232 (tcells L)
theorem WalkAt.vis {w w':World} {B gk:Nat} {L:List Nat} (h:WalkAt w B gk L) (k:Vis w w'):WalkAt w' B gk L:=by
 obtain ⟨gv,gt,h1,h2,h3⟩:=h
 exact ⟨gv,gt,k.bk h1 (by decide) (by decide),h2.vis k,k.bk h3 (by decide) (by decide)⟩
theorem WalkAt.mono {w:World} {B B' gk:Nat} {L:List Nat} (h:WalkAt w B gk L) (hB:B'≤B):WalkAt w B' gk L:=by
 obtain ⟨gv,gt,h1,h2,h3⟩:=h
 exact ⟨gv,gt,h1,h2.mono hB,h3⟩
set_option maxRecDepth 100000 in
theorem WaveLen_any (B gv:Nat) (L:List Nat) (w:World) (h:WaveAt w B gv L):
 Calls Tryz.prog 193 #[.pointer (some ⟨gv,0,none⟩)] w fun e w'=>e=.returned (.int .i64 (L.length:Int))∧w=w':=by
 obtain ⟨_,S,v,hb,_⟩:=h
 have c9:w.cell? ⟨gv,9,none⟩=some (.int .i64 (L.length:Int)):=by
  rw [hb.cell]
  have:=wcells_get S (L.length:Int) v
  simp [this]
 clear hb
 go_enter Tryz.func193,Tryz.ntmps193
 go_wp2
 go_ret
 exact ⟨rfl,rfl⟩
set_option maxRecDepth 100000 in
theorem WalkLen_any (B gk:Nat) (L:List Nat) (w:World) (h:WalkAt w B gk L):
 Calls Tryz.prog 126 #[.pointer (some ⟨gk,0,none⟩)] w fun e w'=>e=.returned (.int .i64 (L.length:Int))∧w=w':=by
 obtain ⟨gv,gt,h1,h2,h3⟩:=h
 have c0:=h1.cell 0
 clear h1 h3
 go_enter Tryz.func126,Tryz.ntmps126
 go_wp2_with fail
 refine (WaveLen_any B gv L _ h2).mono ?_
 rintro e w' ⟨rfl,rfl⟩
 go_wp2_with fail
 go_ret
 exact ⟨rfl,rfl⟩
set_option maxRecDepth 100000 in
theorem WalkBelow_any (B gk:Nat) (L:List Nat) (s:Nat) (w:World) (h:WalkAt w B gk L) (hs:s < 257) (hl:L.length≤1000):
 Calls Tryz.prog 145 #[.pointer (some ⟨gk,0,none⟩),.int .i64 (s:Int)] w fun e w'=>e=.returned (.int .i64 ((L.countP (fun x=>decide (x < s)):Nat):Int))∧Below w.heap.size w w':=by
 obtain ⟨gv,gt,h1,h2,h3⟩:=h
 have c1:=h1.cell 1
 clear h1 h2
 have H3:=Lib.hid h3
 clear h3
 go_enter Tryz.func145,Tryz.ntmps145
 go_wp2_with fail
 refine (TallyBelow_any gt L s _ H3.out hs hl).mono ?_
 rintro e w' ⟨rfl,hb⟩
 obtain ⟨q,hq⟩:∃q,L.countP (fun x=>decide (x < s))=q:=⟨_,rfl⟩
 rw [hq]
 go_wp2_with fail
 go_ret
 exact ⟨by rw [hq];rfl,hb⟩
set_option maxRecDepth 100000 in
theorem WalkOf_any (A:Option Addr) (m c B:Nat) (L:List Nat) (w:World) (hr:Rd w B 1 A m (L.map sv)) (hB:B≤w.heap.size) (hm:m≤128) (hL:∀s∈L,s < 257):
 Calls Tryz.prog 112 #[.slice A m c] w fun e w'=>∃gk,e=.returned (.pointer (some ⟨gk,0,none⟩))∧w.heap.size≤gk∧WalkAt w' w.heap.size gk L∧Below w.heap.size w w':=by
 have Hr:=Lib.hid hr
 have HL:=Lib.hid hL
 clear hr hL
 go_enter Tryz.func112,Tryz.ntmps112
 go_wp2_with fail
 refine (WaveNew_any A m c B L _ Hr.out hB hm HL.out).mono ?_
 rintro e w1 ⟨gv,rfl,hgv,hwv,hb1⟩
 have Hwv:=Lib.hid hwv
 have Hb1:=Lib.hid hb1
 clear hwv hb1
 go_wp2_with fail
 refine (TallyNew_any A m c B L w1 (Hr.out.below (Hb1.out.mono hB)) (by have:=Hb1.out.size;omega) (by omega) HL.out).mono ?_
 rintro e w2 ⟨gt,rfl,hgt,htl,hb2⟩
 have hwv2:=Hwv.out.vis (Vis.of_below hb2)
 have hb3:=Hb1.out.trans (hb2.mono Hb1.out.size)
 have Hwv2:=Lib.hid hwv2
 have Htl:=Lib.hid htl
 have Hb3:=Lib.hid hb3
 clear hwv2 htl hb3 hb2 Hwv Hb1
 go_wp2_with fail
 go_ret
 exact ⟨_,rfl,Hb3.out.size,⟨gv,gt,Bk.new _ _ _,Hwv2.out.vis ((Vis.refl _).alloc _),Htl.out.alloc _⟩,Hb3.out.alloc Hb3.out.size _⟩
set_option maxRecDepth 100000 in
theorem WalkNew_any (A:Option Addr) (m c B:Nat) (t:List UInt8) (w:World) (hr:Rd w B 1 A m (t.map bv)) (hB:B≤w.heap.size) (hm:m≤127):
 Calls Tryz.prog 48 #[.slice A m c] w fun e w'=>∃gk rs,IsSuf (symL t) rs∧e=.returned (.pointer (some ⟨gk,0,none⟩))∧w.heap.size≤gk∧WalkAt w' w.heap.size gk (lastL (symL t) rs)∧Below w.heap.size w w':=by
 have Hr:=Lib.hid hr
 clear hr
 go_enter Tryz.func48,Tryz.ntmps48
 go_wp2_with fail
 refine (SortedLast_any A m c B t _ Hr.out hB (by omega)).mono ?_
 rintro e w1 ⟨rs,A1,c1,hsuf,rfl,hm1,hb1⟩
 have Hsuf:=Lib.hid hsuf
 have Hm1:=Lib.hid hm1.rd
 have Hb1:=Lib.hid hb1
 clear hsuf hm1 hb1
 go_wp2_with fail
 refine (WalkOf_any A1 (m+1) c1 _ _ w1 Hm1.out (Nat.le_refl _) (by omega) (lastL_lt (symL_lt t))).mono ?_
 rintro e w2 ⟨gk,rfl,hgk,hwk,hb2⟩
 have hb3:=Hb1.out.trans (hb2.mono Hb1.out.size)
 have hz:=Hb1.out.size
 go_wp2_with fail
 go_ret
 exact ⟨gk,rs,Hsuf.out,rfl,by omega,hwk.mono hz,hb3⟩
def narL (L:List Nat) (s k:Nat):Nat:=L.countP (fun x=>decide (x < s))+(L.take k).count s
end Go.Proofs.YtipaccakmndkgaaGreatDoor
namespace Go.Proofs.YtipaccakmndkgaaGreatDoor
open Go.RowKit Go.Shelf
set_option linter.unusedVariables false
set_option linter.unusedSimpArgs false
def pairV (x:Nat×Nat):List Value:= [.int .i64 (x.1:Int),.int .i64 (x.2:Int)]
def pairsL (C:List (Nat×Nat)):List Value:=C.flatMap pairV
def rowK (C:List (Nat×Nat)) (k:Nat):Nat:=(C.getD k (0,0)).1
def posK (C:List (Nat×Nat)) (k:Nat):Nat:=(C.getD k (0,0)).2
theorem pairsL_len (C:List (Nat×Nat)):(pairsL C).length=C.length*2:=by
 induction C with
 | nil=>rfl
 | cons x l ih=>
   have:pairsL (x::l)=pairV x++pairsL l:=rfl
   rw [this,List.length_append,ih]
   simp [pairV]
   omega
theorem pairsL_get (C:List (Nat×Nat)) (k:Nat) (h:k < C.length):(pairsL C)[k*2]?=some (.int .i64 ((rowK C k:Nat):Int))∧(pairsL C)[k*2+1]?=some (.int .i64 ((posK C k:Nat):Int)):=by
 induction C generalizing k with
 | nil=>cases h
 | cons x l ih=>
   have e:pairsL (x::l)=pairV x++pairsL l:=rfl
   rcases k with _ | k
   · exact ⟨rfl,rfl⟩
   · have:=ih k (by simpa using h)
     rw [e,List.getElem?_append_right (by simp [pairV];omega),List.getElem?_append_right (by simp [pairV];omega)]
     rw [show (k+1)*2 -(pairV x).length=k*2 by simp [pairV];omega,show (k+1)*2+1 -(pairV x).length=k*2+1 by simp [pairV];omega]
     exact this
structure PRd (W:World) (gb gp:Nat) (A:Option Addr) (n c:Nat) (C:List (Nat×Nat)):Prop where
 box:W.cell? ⟨gb,0,none⟩=some (.pointer (some ⟨gp,0,none⟩))
 sl:W.cell? ⟨gp,1,none⟩=some (.slice A n c)
 rd:Rd W W.heap.size 2 A n (pairsL C)
theorem PRd.below {W W':World} {gb gp n c:Nat} {A:Option Addr} {C:List (Nat×Nat)} (h:PRd W gb gp A n c C) (hb:gb < W.heap.size) (hp:gp < W.heap.size) (k:Below W.heap.size W W'):PRd W' gb gp A n c C:=
 ⟨(k.cell hb).trans h.box,(k.cell hp).trans h.sl,(h.rd.below k).mono k.size⟩
theorem PRd.drewN {W:World} {gb gp n c:Nat} {A:Option Addr} {C:List (Nat×Nat)} (h:PRd W gb gp A n c C) (q:Nat):PRd (W.drewN q) gb gp A n c C:=⟨h.box,h.sl,h.rd⟩
theorem PRd.at {W:World} {gb gp n c:Nat} {A:Option Addr} {C:List (Nat×Nat)} (h:PRd W gb gp A n c C) {k:Nat} (hk:k < C.length):
 k < n∧∃b off,A=some ⟨b,off,none⟩∧W.cell? ⟨b,off+k*2,none⟩=some (.int .i64 ((rowK C k:Nat):Int))∧W.cell? ⟨b,off+k*2+1,none⟩=some (.int .i64 ((posK C k:Nat):Int)):=by
 have hl:=h.rd.1
 rw [pairsL_len] at hl
 have hn:k < n:=by omega
 obtain ⟨b,off,e,_,hc⟩:=h.rd.2 (by omega)
 obtain ⟨h1,h2⟩:=pairsL_get C k hk
 exact ⟨hn,b,off,e,hc _ _ h1,by rw [Nat.add_assoc];exact hc _ _ h2⟩
set_option maxRecDepth 100000 in
theorem PermAt1_any (gb gp:Nat) (A:Option Addr) (n c:Nat) (C:List (Nat×Nat)) (k row:Nat) (W:World) (h:PRd W gb gp A n c C) (hk:k < C.length):
 Calls Tryz.prog 184 #[.int .i64 (k:Int),.int .i64 (row:Int),.pointer (some ⟨gb,0,none⟩)] W fun e w'=>e=.returned (.int .i64 (Lib.compareInt (rowK C k:Nat) row))∧W=w':=by
 obtain ⟨hkn,b,off,rfl,h1,h2⟩:=h.at hk
 have c0:=h.box
 have c1:=h.sl
 have hcmp:=AnyG.cmp_Compare_int shCmp ((rowK C k:Nat):Int) (row:Int) W
 change Calls Tryz.prog 185 _ _ _ at hcmp
 generalize Lib.compareInt (rowK C k:Nat) row=r at hcmp⊢
 clear h h2
 go_enter Tryz.func184,Tryz.ntmps184
 go_wp2_with fail
 refine hcmp.mono ?_
 rintro e w' ⟨rfl,rfl⟩
 go_wp2_with fail
 go_ret
 exact ⟨rfl,rfl⟩
set_option maxRecDepth 100000 in
theorem PermHas1_any (gb gq gp:Nat) (A:Option Addr) (n c:Nat) (C:List (Nat×Nat)) (k pos:Nat) (W:World) (h:PRd W gb gp A n c C) (hq:W.cell? ⟨gq,0,none⟩=some (.int .i64 (pos:Int))) (hk:k < C.length):
 Calls Tryz.prog 187 #[.int .i64 (k:Int),.pointer (some ⟨gb,0,none⟩),.pointer (some ⟨gq,0,none⟩)] W fun e w'=>e=.returned (.bool (decide (posK C k=pos)))∧∃q,w'=W.drewN q:=by
 obtain ⟨hkn,b,off,rfl,h1,h2⟩:=h.at hk
 have c0:=h.box
 have c1:=h.sl
 obtain ⟨x,hx⟩:∃x,posK C k=x:=⟨_,rfl⟩
 rw [hx] at h2⊢
 clear h h1 hx
 by_cases e:x=pos
 · subst e
   go_enter Tryz.func187,Tryz.ntmps187
   go_wp2
   go_quiet (fail)
   go_wp2
   go_ret
   exact ⟨by simp,_,rfl⟩
 · have e1:((x:Int)==(pos:Int))=false:=by simp;omega
   go_enter Tryz.func187,Tryz.ntmps187
   go_wp2
   go_quiet (fail)
   go_wp2
   go_ret
   exact ⟨by simp [e],_,rfl⟩
end Go.Proofs.YtipaccakmndkgaaGreatDoor
