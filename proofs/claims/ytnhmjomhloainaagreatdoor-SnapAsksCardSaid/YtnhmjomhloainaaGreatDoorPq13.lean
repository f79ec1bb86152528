/- Parts of the walk, joined from several texts. Conditions: what each lemma says. -/
import Derived.Test.YtnhmjomhloainaaGreatDoorPq12
import Derived.Shelf.SlCmpFuncs.None
set_option linter.all false
set_option maxRecDepth 100000
set_option maxHeartbeats 2000000
namespace Go.Proofs.YtnhmjomhloainaaGreatDoor
open Go.RowKit
theorem WaveAt.mono {w:World} {B B' gv:Nat} {L:List Nat} (h:WaveAt w B gv L) (hB:B'<=B):WaveAt w B' gv L:=by
 obtain ⟨h0,S,v,h1,h2⟩:=h;exact ⟨zAk hB h0,S,v,h1,fun lv hl=>(h2 lv hl).mono hB⟩
def WalkAt (w:World) (B gk:Nat) (L:List Nat):Prop:=
 ∃gv gt,Bk w gk 99 #[.pointer (some ⟨gv,0,none⟩),.pointer (some ⟨gt,0,none⟩)]/\WaveAt w B gv L/\Bk w gt 229 (tcells L)
theorem WalkAt.vis {w w':World} {B gk:Nat} {L:List Nat} (h:WalkAt w B gk L) (k:Vis w w'):WalkAt w' B gk L:=by
 obtain ⟨gv,gt,h1,h2,h3⟩:=h;exact ⟨gv,gt,k.bk h1 dC dC,h2.vis k,k.bk h3 dC dC⟩
theorem WalkAt.mono {w:World} {B B' gk:Nat} {L:List Nat} (h:WalkAt w B gk L) (hB:B'<=B):WalkAt w B' gk L:=by
 obtain ⟨gv,gt,h1,h2,h3⟩:=h;exact ⟨gv,gt,h1,h2.mono hB,h3⟩
theorem sI (B gv:Nat) (L:List Nat) (w:World) (h:WaveAt w B gv L):
 Calls Tryz.prog 187 #[.pointer (some ⟨gv,0,none⟩)] w fun e w'=>e=.returned (.int .i64 (L.length:Int))/\w=w':=by
 obtain ⟨_,S,v,hb,_⟩:=h;have c9:w.cell? ⟨gv,9,none⟩=some (.int .i64 (L.length:Int)):=by rw [hb.cell];have:=bH S (L.length:Int) v;simp [this]
 clear hb;go_enter Tryz.func187,Tryz.ntmps187;go_wp2;go_ret;exact ⟨rfl,rfl⟩
theorem jT (B gk:Nat) (L:List Nat) (w:World) (h:WalkAt w B gk L):
 Calls Tryz.prog 123 #[.pointer (some ⟨gk,0,none⟩)] w fun e w'=>e=.returned (.int .i64 (L.length:Int))/\w=w':=by
 obtain ⟨gv,gt,h1,h2,h3⟩:=h;have c0:=h1.cell 0;clear h1 h3;go_enter Tryz.func123,Tryz.ntmps123;go_wp2_with fail;refine (sI B gv L _ h2).mono ?_;rintro e w' ⟨rfl,rfl⟩;go_wp2_with fail;go_ret;exact ⟨rfl,rfl⟩
theorem gV (B gk:Nat) (L:List Nat) (s:Nat) (w:World) (h:WalkAt w B gk L) (hs:s < 257) (hl:L.length<=1000):
 Calls Tryz.prog 189 #[.pointer (some ⟨gk,0,none⟩),.int .i64 (s:Int)] w fun e w'=>e=.returned (.int .i64 ((L.countP (fun x=>decide (x < s)):Nat):Int))/\Below w.heap.size w w':=by
 obtain ⟨gv,gt,h1,h2,h3⟩:=h;have c1:=h1.cell 1;clear h1 h2;have H3:=lhd h3;clear h3;go_enter Tryz.func189,Tryz.ntmps189;go_wp2_with fail;refine (jF gt L s _ H3.out hs hl).mono ?_;rintro e w' ⟨rfl,hb⟩;obtain ⟨q,hq⟩:∃q,L.countP (fun x=>decide (x < s))=q:=⟨_,rfl⟩;rw [hq];go_wp2_with fail;go_ret;exact ⟨by rw [hq];rfl,hb⟩
def cE (L:List Nat) (s k:Nat):Nat:=L.countP (fun x=>decide (x < s))+(L.take k).count s
end Go.Proofs.YtnhmjomhloainaaGreatDoor
namespace Go.Proofs.YtnhmjomhloainaaGreatDoor
open Go.RowKit Go.Shelf
def lQ (x:Nat×Nat):List Value:= [.int .i64 (x.1:Int),.int .i64 (x.2:Int)]
def bO (C:List (Nat×Nat)):List Value:=C.flatMap lQ
def aC (C:List (Nat×Nat)) (k:Nat):Nat:=(C.getD k (0,0)).1
def aF (C:List (Nat×Nat)) (k:Nat):Nat:=(C.getD k (0,0)).2
theorem cW (C:List (Nat×Nat)):(bO C).length=C.length*2:=by
 induction C with
 | nil=>rfl
 | cons x l ih=>
   have:bO (x::l)=lQ x++bO l:=rfl;rw [this,zAi,ih];simp [lQ];omega
theorem cD (C:List (Nat×Nat)) (k:Nat) (h:k < C.length):(bO C)[k*2]?=some (.int .i64 ((aC C k:Nat):Int))/\(bO C)[k*2+1]?=some (.int .i64 ((aF C k:Nat):Int)):=by
 induction C generalizing k with
 | nil=>cases h
 | cons x l ih=>
   have e:bO (x::l)=lQ x++bO l:=rfl;rcases k with _ | k;exact ⟨rfl,rfl⟩;have:=ih k (by simpa using h);rw [e,zAo (by simp [lQ];omega),zAo (by simp [lQ];omega)];rw [show (k+1)*2 -(lQ x).length=k*2 by simp [lQ];omega,show (k+1)*2+1 -(lQ x).length=k*2+1 by simp [lQ];omega];exact this
structure PRd (W:World) (gb gp:Nat) (A:Option Addr) (n c:Nat) (C:List (Nat×Nat)):Prop where
 box:W.cell? ⟨gb,0,none⟩=some (.pointer (some ⟨gp,0,none⟩))
 sl:W.cell? ⟨gp,1,none⟩=some (.slice A n c)
 rd:Rd W W.heap.size 2 A n (bO C)
theorem PRd.below {W W':World} {gb gp n c:Nat} {A:Option Addr} {C:List (Nat×Nat)} (h:PRd W gb gp A n c C) (hb:gb < W.heap.size) (hp:gp < W.heap.size) (k:Below W.heap.size W W'):PRd W' gb gp A n c C:=
 ⟨(k.cell hb).trans h.box,(k.cell hp).trans h.sl,(h.rd.below k).mono k.size⟩
theorem PRd.drewN {W:World} {gb gp n c:Nat} {A:Option Addr} {C:List (Nat×Nat)} (h:PRd W gb gp A n c C) (q:Nat):PRd (W.drewN q) gb gp A n c C:=⟨h.box,h.sl,h.rd⟩
theorem PRd.at {W:World} {gb gp n c:Nat} {A:Option Addr} {C:List (Nat×Nat)} (h:PRd W gb gp A n c C) {k:Nat} (hk:k < C.length):
 k < n/\∃b off,A=some ⟨b,off,none⟩/\W.cell? ⟨b,off+k*2,none⟩=some (.int .i64 ((aC C k:Nat):Int))/\W.cell? ⟨b,off+k*2+1,none⟩=some (.int .i64 ((aF C k:Nat):Int)):=by
 have hl:=h.rd.1;rw [cW] at hl;have hn:k < n:=oM;obtain ⟨b,off,e,_,hc⟩:=h.rd.2 oM;obtain ⟨h1,h2⟩:=cD C k hk;exact ⟨hn,b,off,e,hc _ _ h1,by rw [Nat.add_assoc];exact hc _ _ h2⟩
theorem aB6 (gb gp:Nat) (A:Option Addr) (n c:Nat) (C:List (Nat×Nat)) (k row:Nat) (W:World) (h:PRd W gb gp A n c C) (hk:k < C.length):
 Calls Tryz.prog 180 #[.int .i64 (k:Int),.int .i64 (row:Int),.pointer (some ⟨gb,0,none⟩)] W fun e w'=>e=.returned (.int .i64 (Lib.compareInt (aC C k:Nat) row))/\W=w':=by
 obtain ⟨hkn,b,off,rfl,h1,h2⟩:=h.at hk;have c0:=h.box;have c1:=h.sl;have hcmp:=AnyG.cmp_Compare_int shCmp ((aC C k:Nat):Int) (row:Int) W;change Calls Tryz.prog 181 _ _ _ at hcmp;generalize Lib.compareInt (aC C k:Nat) row=r at hcmp⊢;clear h h2;go_enter Tryz.func180,Tryz.ntmps180;go_wp2_with fail;refine hcmp.mono ?_;rintro e w' ⟨rfl,rfl⟩;go_wp2_with fail;go_ret;exact ⟨rfl,rfl⟩
theorem aAG (gb gq gp:Nat) (A:Option Addr) (n c:Nat) (C:List (Nat×Nat)) (k pos:Nat) (W:World) (h:PRd W gb gp A n c C) (hq:W.cell? ⟨gq,0,none⟩=some (.int .i64 (pos:Int))) (hk:k < C.length):
 Calls Tryz.prog 183 #[.int .i64 (k:Int),.pointer (some ⟨gb,0,none⟩),.pointer (some ⟨gq,0,none⟩)] W fun e w'=>e=.returned (.bool (decide (aF C k=pos)))/\∃q,w'=W.drewN q:=by
 obtain ⟨hkn,b,off,rfl,h1,h2⟩:=h.at hk;have c0:=h.box;have c1:=h.sl;obtain ⟨x,hx⟩:=eqx (aF C k);rw [hx] at h2⊢;clear h h1 hx;by_cases e:x=pos
 · subst e;go_enter Tryz.func183,Tryz.ntmps183;go_wp2;go_quiet (fail);go_wp2;go_ret;exact ⟨by simp,_,rfl⟩
 · have e1:((x:Int)==(pos:Int))=false:=(by simp;omega);go_enter Tryz.func183,Tryz.ntmps183;go_wp2;go_quiet (fail);go_wp2;go_ret;exact ⟨by simp [e],_,rfl⟩
end Go.Proofs.YtnhmjomhloainaaGreatDoor
namespace Go.Proofs.YtnhmjomhloainaaGreatDoor
open Go.RowKit
theorem vU (B gk:Nat) (L:List Nat) (lo hi s:Nat) (w:World) (h:WalkAt w B gk L) (hs:s < 257) (h1:lo<=hi) (h2:hi<=L.length) (hL:∀x∈L,x < 257) (hl:L.length<=1000):
 Calls Tryz.prog 216 #[.pointer (some ⟨gk,0,none⟩),.int .i64 (lo:Int),.int .i64 (hi:Int),.int .i64 (s:Int)] w fun e w'=>e=.returned (.tuple #[.int .i64 ((cE L s lo:Nat):Int),.int .i64 ((cE L s hi:Nat):Int)])/\VB B w w':=by
 obtain ⟨N,hN⟩:=eqx L.length;obtain ⟨q,hq⟩:∃q,L.countP (fun x=>decide (x < s))=q:=⟨_,rfl⟩;obtain ⟨r1,hr1⟩:∃q,(L.take lo).count s=q:=⟨_,rfl⟩;obtain ⟨r2,hr2⟩:∃q,(L.take hi).count s=q:=⟨_,rfl⟩;have b0:q<=1000:=by rw [<-hq];exact zAk zBh hl
 have b1:r1<=1000:=by rw [<-hr1];exact zAk zBv (by rw [zAj];omega)
 have b2:r2<=1000:=by rw [<-hr2];exact zAk zBv (by rw [zAj];omega)
 unfold cE;rw [hq,hr1,hr2];obtain ⟨gv,gt,k1,k2,k3⟩:=h;have Hw:Hid (WalkAt w B gk L):=lhd ⟨gv,gt,k1,k2,k3⟩;obtain ⟨Hk,Hwv⟩:=hqq2 k1 k2;have hl2:N<=1000:=oM;have h3:hi<=N:=oM;obtain ⟨Hs,HL,Hl,HN,Hb,HR1,HR2⟩:=hqq7 hs hL hl hN hq hr1 hr2;have m1:max (lo:Int) 0=(lo:Int):=oM;have m2:min (lo:Int) (N:Int)=(lo:Int):=oM;have m3:min (hi:Int) (N:Int)=(hi:Int):=oM;have m4:max (hi:Int) (lo:Int)=(hi:Int):=oM;clear k1 k2 k3 hL hl hq hr1 hr2 h2;go_enter Tryz.func216,Tryz.ntmps216;go_wp2_with fail;refine (eT s _ hs).mono ?_;rintro e w1 ⟨rfl,hb1⟩;have hv1:VB B w w1:=VisK.of_below hb1;have Hv1:=lhd hv1;clear hb1 hv1;go_wp2_with fail;refine (jT B gk L _ (Hw.out.vis Hv1.out.1)).mono ?_;rintro e w2 ⟨rfl,rfl⟩;rw [HN.out];go_wp2_with fail;refine (jT B gk L _ (Hw.out.vis Hv1.out.1)).mono ?_;rintro e w2 ⟨rfl,rfl⟩;rw [HN.out];go_wp2_with fail;have HV:=lhd Hv1.out;clear Hv1 m1 m2 m3 m4 hN;obtain ⟨w2,hw2⟩:∃w2,w2=w1:=⟨_,rfl⟩;subst hw2;refine wp_region_any kR ?_;refine aX [28,29,30,31,32,33,34,35,36,37,38,39,40,41,42,43,44,45,46,47,48,49,8,9] (VB B) (Vs [is (.pointer (some ⟨gk,0,none⟩)),is (.int .i64 (s:Int)),is (.int .i64 (q:Int)),is (.pointer (some ⟨gk,0,none⟩)),is (.pointer (some ⟨gk,0,none⟩)),is (.pointer (some ⟨gk,0,none⟩)),is (.pointer (some ⟨gv,0,none⟩)),is (.int .i64 (lo:Int)),is (.int .i64 (s:Int)),is (.int .i64 (r1:Int)),is (.int .i64 ((q+r1:Nat):Int)),is (.pointer (some ⟨gk,0,none⟩)),is (.int .i64 (s:Int)),is (.int .i64 (q:Int)),is (.pointer (some ⟨gk,0,none⟩)),is (.pointer (some ⟨gk,0,none⟩)),is (.pointer (some ⟨gk,0,none⟩)),is (.pointer (some ⟨gv,0,none⟩)),is (.int .i64 (hi:Int)),is (.int .i64 (s:Int)),is (.int .i64 (r2:Int)),is (.int .i64 ((q+r2:Nat):Int)),is (.int .i64 ((q+r1:Nat):Int)),is (.int .i64 ((q+r2:Nat):Int))]) _ _ rfl kR vR (fun _ _=>VisK.trans) (cY (by repeat' (first | exact cA _ _ | exact bS _ |(refine zAe.2 ⟨?_,?_⟩)|(intro p hp;cases hp)))) ?_ ?_
 · refine aT ?_;refine pH 0 (.pointer (some ⟨gk,0,none⟩)) ?_;refine pH 3 (.int .i64 (s:Int)) ?_;refine sC (fun _ w5 hS _ _ _ hval _ _ _ hK=>?_) ?_
   · have e28:_=_:=hval 0 28 kR rfl;have e29:_=_:=hval 1 29 kR rfl;replace hS:(VB B) w2 w5:=bD hS;go_simp;refine (gV B gk L s w5 (Hw.out.vis (HV.out.trans hS).1) Hs.out Hl.out).mono ?_;rintro e w8 ⟨rfl,hb8⟩;rw [Hb.out];exact hK _ _ (VisK.of_below hb8) rfl
   refine pH 0 (.pointer (some ⟨gk,0,none⟩)) ?_;refine sC (fun _ w5 hS _ _ _ hval _ _ _ hK=>?_) ?_
   · have e31:_=_:=hval 3 31 kR rfl;replace hS:(VB B) w2 w5:=bD hS;have hk5:=(HV.out.trans hS).1.bk Hk.out dC dC;have c0:=hk5.cell 0;have c1:=hk5.cell 1;go_simp;exact hK _ _ vR rfl
   refine sC (fun _ w5 hS _ _ _ hval _ _ _ hK=>?_) ?_
   · have e32:_=_:=hval 4 32 kR rfl;replace hS:(VB B) w2 w5:=bD hS;have hk5:=(HV.out.trans hS).1.bk Hk.out dC dC;have c0:=hk5.cell 0;have c1:=hk5.cell 1;go_simp;exact hK _ _ vR rfl
   refine sC (fun _ w5 hS _ _ _ hval _ _ _ hK=>?_) ?_
   · have e33:_=_:=hval 5 33 kR rfl;replace hS:(VB B) w2 w5:=bD hS;have hk5:=(HV.out.trans hS).1.bk Hk.out dC dC;have c0:=hk5.cell 0;have c1:=hk5.cell 1;go_simp;exact hK _ _ vR rfl
   refine pH 1 (.int .i64 (lo:Int)) ?_;refine pH 3 (.int .i64 (s:Int)) ?_;refine sC (fun _ w5 hS _ _ _ hval _ _ _ hK=>?_) ?_
   · have e34:_=_:=hval 6 34 kR rfl;have e35:_=_:=hval 7 35 kR rfl;have e36:_=_:=hval 8 36 kR rfl;replace hS:(VB B) w2 w5:=bD hS;go_simp;refine (gF B gv L lo s w5 (Hwv.out.vis (HV.out.trans hS).1) Hs.out (by rw [HN.out];omega) HL.out Hl.out).mono ?_;rintro e w8 ⟨rfl,hv8⟩;rw [HR1.out];exact hK _ _ hv8 rfl
   refine sC (fun _ _ _ _ _ _ hval _ _ _ hK=>?_) ?_
   · have e30:_=_:=hval 2 30 kR rfl;have e37:_=_:=hval 9 37 kR rfl;have h64:IntKind.i64.wrap ((q:Int)+(r1:Int))=((q+r1:Nat):Int):=(by rw [IntKind.wrap_i64];omega);go_simp;exact hK _ _ vR (by first | rfl | exact h64 | simp [is])
   refine pH 0 (.pointer (some ⟨gk,0,none⟩)) ?_;refine pH 3 (.int .i64 (s:Int)) ?_;refine sC (fun _ w5 hS _ _ _ hval _ _ _ hK=>?_) ?_
   · have e39:_=_:=hval 11 39 kR rfl;have e40:_=_:=hval 12 40 kR rfl;replace hS:(VB B) w2 w5:=bD hS;go_simp;refine (gV B gk L s w5 (Hw.out.vis (HV.out.trans hS).1) Hs.out Hl.out).mono ?_;rintro e w8 ⟨rfl,hb8⟩;rw [Hb.out];exact hK _ _ (VisK.of_below hb8) rfl
   refine pH 0 (.pointer (some ⟨gk,0,none⟩)) ?_;refine sC (fun _ w5 hS _ _ _ hval _ _ _ hK=>?_) ?_
   · have e42:_=_:=hval 14 42 kR rfl;replace hS:(VB B) w2 w5:=bD hS;have hk5:=(HV.out.trans hS).1.bk Hk.out dC dC;have c0:=hk5.cell 0;have c1:=hk5.cell 1;go_simp;exact hK _ _ vR rfl
   refine sC (fun _ w5 hS _ _ _ hval _ _ _ hK=>?_) ?_
   · have e43:_=_:=hval 15 43 kR rfl;replace hS:(VB B) w2 w5:=bD hS;have hk5:=(HV.out.trans hS).1.bk Hk.out dC dC;have c0:=hk5.cell 0;have c1:=hk5.cell 1;go_simp;exact hK _ _ vR rfl
   refine sC (fun _ w5 hS _ _ _ hval _ _ _ hK=>?_) ?_
   · have e44:_=_:=hval 16 44 kR rfl;replace hS:(VB B) w2 w5:=bD hS;have hk5:=(HV.out.trans hS).1.bk Hk.out dC dC;have c0:=hk5.cell 0;have c1:=hk5.cell 1;go_simp;exact hK _ _ vR rfl
   refine pH 2 (.int .i64 (hi:Int)) ?_;refine pH 3 (.int .i64 (s:Int)) ?_;refine sC (fun _ w5 hS _ _ _ hval _ _ _ hK=>?_) ?_
   · have e45:_=_:=hval 17 45 kR rfl;have e46:_=_:=hval 18 46 kR rfl;have e47:_=_:=hval 19 47 kR rfl;replace hS:(VB B) w2 w5:=bD hS;go_simp;refine (gF B gv L hi s w5 (Hwv.out.vis (HV.out.trans hS).1) Hs.out (by rw [HN.out];omega) HL.out Hl.out).mono ?_;rintro e w8 ⟨rfl,hv8⟩;rw [HR2.out];exact hK _ _ hv8 rfl
   refine sC (fun _ _ _ _ _ _ hval _ _ _ hK=>?_) ?_
   · have e41:_=_:=hval 13 41 kR rfl;have e48:_=_:=hval 20 48 kR rfl;have h64:IntKind.i64.wrap ((q:Int)+(r2:Int))=((q+r2:Nat):Int):=(by rw [IntKind.wrap_i64];omega);go_simp;exact hK _ _ vR (by first | rfl | exact h64 | simp [is])
   refine pV 10 38 ?_;refine pV 21 49 ?_;exact aG
 · intro ev w6 hS hval;replace hS:(VB B) w2 w6:=bD hS;have e8:ev (.tmp 8)=.int .i64 ((q+r1:Nat):Int):=hval 22 8 rfl;have e9:ev (.tmp 9)=.int .i64 ((q+r2:Nat):Int):=hval 23 9 rfl;simp only [aO,zq1,zq2,Act.put,zq3,zq4,zq5];rw [e8];rw [e9];clear hval;go_wp2_with fail;go_ret2;exact ⟨rfl,HV.out.trans hS⟩
end Go.Proofs.YtnhmjomhloainaaGreatDoor
namespace Go.Proofs.YtnhmjomhloainaaGreatDoor
open Go.RowKit Go.Shelf
open Go.Sort (Holds)
structure PermAt (w:World) (B gp ga:Nat) (vl vo vt vf:Value) (R P:Nat) (ks:List Nat) (C:List (Nat×Nat)) (tk:List Bool) (fr:List Nat):Prop where
 blk:Bk w gp 157 #[.pointer (some ⟨ga,0,none⟩),vl,vo,.int .i64 (R:Int),.int .i64 (P:Int)]
 lrow:w.ownsRow B 159 2 vl C.length (bO C)
 orow:w.ownsRow B 3 1 vo ks.length (ks.map sv)
 ar:Bk w ga 215 #[vt,vf,.int .i64 268435456]
 trow:w.ownsRow B 4 1 vt tk.length (tk.map Value.bool)
 frow:w.ownsRow B 3 1 vf fr.length (fr.map sv)
 apart:vo.ownBlock=none∨vo.ownBlock≠vf.ownBlock
 lt:∀k∈ks,k < C.length
 lo:B<=gp/\B<=ga
theorem aDi {l:List Nat} {f:Nat->Nat} (h:l.Pairwise (fun a b=>f a < f b)) (r:Nat):∀(j x:Nat),l[j]?=some x->(f x < r↔j < l.countP fun k=>decide (f k < r)):=by
 induction l with
 | nil=>intro j x h;cases h
 | cons y l ih=>
   obtain ⟨h1,h2⟩:=List.pairwise_cons.1 h;intro j x hj;rw [zBn];by_cases hy:f y < r
   · rcases j with _ | j
     · simp at hj;subst hj;simp [hy]
     have:=ih h2 j x (by simpa using hj);simp only [hy,decide_true,if_true];omega
   · have h0:(l.countP fun k=>decide (f k < r))=0:=(by rw [List.countP_eq_zero];intro a ha;have:=h1 a ha;simp;omega);rcases j with _ | j
     · simp at hj;subst hj;simp [hy,h0]
     have hx:=h1 x (zAd (by simpa using hj));simp only [h0,hy,decide_false];simp;omega
theorem rN {l:List Nat} {f:Nat->Nat} (h:l.Pairwise (fun a b=>f a < f b)) (r:Nat):(∃x,l[l.countP fun k=>decide (f k < r)]?=some x/\f x=r)↔∃k∈l,f k=r:=by
 constructor;rintro ⟨x,h1,h2⟩;exact ⟨x,zAd h1,h2⟩
 · rintro ⟨k,hk,rfl⟩;obtain ⟨j,hj,rfl⟩:=List.getElem_of_mem hk;have e1:=zAa hj;have h1:=aDi h (f l[j]) j _ e1;have hle:¬j < l.countP fun k=>decide (f k < f l[j]):=fun e=>by have:=h1.2 e;omega
   rcases zBe (l.countP fun k=>decide (f k < f l[j])) j with h2 | h2
   · have hlt:(l.countP fun k=>decide (f k < f l[j])) < l.length:=oM;have e2:=zAa hlt;have h3:=aDi h (f l[j]) _ _ e2;have h4:¬f l[l.countP fun k=>decide (f k < f l[j])] < f l[j]:=fun e=>by have:=h3.1 e;omega
     have h5:=zAr.1 h _ _ hlt hj h2;omega
   have e:(l.countP fun k=>decide (f k < f l[j]))=j:=oM;rw [e];exact ⟨_,e1,rfl⟩
def fF (c:Nat) (ks:List Nat):Array (Fin (c+1)):=(ks.map fun k=>(⟨k %(c+1),Nat.mod_lt _ (Nat.succ_pos c)⟩:Fin (c+1))).toArray
theorem mC {c:Nat} {ks:List Nat} (h:∀k∈ks,k < c+1) {j k:Nat} (hj:ks[j]?=some k):((fF c ks)[j]!).val=k:=by
 have hl:j < ks.length:=(zAc.1 hj).1;have hk:=h k (zAd hj);have e:ks[j]=k:=by rw [zAa hl] at hj;injection hj
 rw [aBy _ _ (by simpa [fF] using hl)];simp [fF,e,zBu hk]
theorem aCV {c:Nat} {ks:List Nat} (h:∀k∈ks,k < c+1) (p:Nat->Bool):(fF c ks).toList.countP (fun x=>p x.val)=ks.countP p:=by
 unfold fF;rw [List.countP_map];refine List.countP_congr fun k hk=>?_;simp [zBu (h k hk)]
theorem oN {w:World} {c g:Nat} {ks:List Nat} {cs:Array Value} (hb:Bk w g 3 cs) (h:∀k∈ks,k < c+1) (ht:cs.toList.take ks.length=ks.map sv):Holds (eR c) w g 0 (fF c ks):=by
 intro j hj;have hl:j < ks.length:=by simpa [fF] using hj
 rw [zBi];refine ⟨?_,hb.frozen j⟩;have e:(cs.toList.take ks.length)[j]?=(ks.map sv)[j]?:=by rw [ht]
 rw [zBs,zBx hl,zAf,zAa hl,Array.getElem?_toList] at e;rw [hb.cell,e];have:=mC h (zAa hl);simp [eR,this,sv]
theorem aFC {w w':World} {c g:Nat} {d:Array (Fin (c+1))} (hH:Holds (eR c) w g 0 d) (h:SW (eR c) w g 0 d w'):Below w.heap.size w w':=by
 obtain ⟨n,os,rfl⟩:=h;unfold sortWorld;have e:Go.Sort.putRow (eR c) (Go.Sort.ahead w n) g 0 d=Go.Sort.ahead w n:=Go.Sort.putRow_self (eR c) _ g 0 d hH;rw [e];exact ⟨rfl,rfl,rfl,by show w.heap.size<=(w.heap++os).size;simp,fun k hk=>Go.Sort.heap_grow_old _ _ hk⟩
theorem tT (x y:Int):Lib.compareInt x y < 0↔x < y:=by
 unfold Lib.compareInt;split
 · simp [*]
 · split <;> simp [*]
theorem aGM (x y:Int):Lib.compareInt x y=0↔x=y:=by
 unfold Lib.compareInt;split;simp;omega;split;simp;omega;simp;omega
section
variable {w : World} {B gp ga : Nat} {vl vo vt vf : Value} {R P : Nat} {ks : List Nat} {C : List (Nat × Nat)} {tk : List Bool} {fr : List Nat}
theorem PermAt.prd (h:PermAt w B gp ga vl vo vt vf R P ks C tk fr) {gb:Nat} {w':World} (hb:w'.cell? ⟨gb,0,none⟩=some (.pointer (some ⟨gp,0,none⟩))) (k:Below w.heap.size w w'):∃A n c,vl=.slice A n c/\PRd w' gb gp A n c C:=by
 obtain ⟨A,c,e,_⟩:=aR h.lrow;refine ⟨A,C.length,c,e,hb,?_,?_⟩;have:=(h.blk.below k h.blk.lt).cell 1;rw [e] at this;exact this;have h1:=aV h.lrow k;rw [e] at h1;exact Rd.of_own h1
end
theorem aID {ks:List Nat} {C:List (Nat×Nat)} {c row:Nat} (hc:C.length=c+1) (hlt:∀k∈ks,k < C.length) (hs:ks.Pairwise (fun a b=>aC C a < aC C b)):
 ((fF c ks).toList.countP (fun x=>decide (Lib.compareInt (aC C x.val:Nat) row < 0)))=ks.countP (fun k=>decide (aC C k < row))/\
 (decide (((fF c ks).toList.countP (fun x=>decide (Lib.compareInt (aC C x.val:Nat) row < 0))) < (fF c ks).size)&&decide (Lib.compareInt (aC C ((fF c ks)[((fF c ks).toList.countP (fun x=>decide (Lib.compareInt (aC C x.val:Nat) row < 0)))]!).val:Nat) row=0))=decide (∃k∈ks,aC C k=row):=by
 have hlt':∀k∈ks,k < c+1:=fun k hk=>by rw [<-hc];exact hlt k hk
 have e1:(fF c ks).toList.countP (fun x=>decide (Lib.compareInt (aC C x.val:Nat) row < 0))=ks.countP (fun k=>decide (aC C k < row)):=by rw [<-aCV hlt' (fun k=>decide (aC C k < row))];congr 1;funext x;rw [decide_eq_decide,tT];omega
 refine ⟨e1,?_⟩;rw [e1,Bool.eq_iff_iff];simp only [zBd,zCa,aGM];rw [<-rN (f:=aC C) hs row];constructor;rintro ⟨h1,h2⟩;have hl:(ks.countP fun k=>decide (aC C k < row)) < ks.length:=(by simpa [fF] using h1);refine ⟨_,zAa hl,?_⟩;rw [mC hlt' (zAa hl)] at h2;omega;rintro ⟨x,h1,h2⟩;have hl:=(zAc.1 h1).1;refine ⟨by simpa [fF] using hl,?_⟩;rw [mC hlt' h1];omega
theorem jH (B gp ga:Nat) (vl vo vt vf:Value) (R P:Nat) (ks:List Nat) (C:List (Nat×Nat)) (tk:List Bool) (fr:List Nat) (row:Nat) (w:World) (h:PermAt w B gp ga vl vo vt vf R P ks C tk fr) (hs:ks.Pairwise (fun a b=>aC C a < aC C b)) (hk:ks.length<=1099511627776):
 Calls Tryz.prog 119 #[.pointer (some ⟨gp,0,none⟩),.int .i64 (row:Int)] w fun e w'=>e=.returned (.tuple #[.int .i64 ((ks.countP (fun k=>decide (aC C k < row)):Nat):Int),.bool (decide (∃k∈ks,aC C k=row))])/\Below w.heap.size w w':=by
 have hgp:=h.blk.lt;have hbx:Below w.heap.size w (w.alloc (.cells #[.pointer (some ⟨gp,0,none⟩)] 85)):=bR.alloc nL _;have c2:w.cell? ⟨gp,2,none⟩=some vo:=(h.blk.cell 2).trans rfl;have hcall:∀A n c,vo=.slice A n c->Calls Tryz.prog 179 #[.slice A n c,.int .i64 (row:Int),.func (.func 180) #[] #[.pointer (some ⟨w.heap.size,0,none⟩)]] (w.alloc (.cells #[.pointer (some ⟨gp,0,none⟩)] 85)) fun e w'=>e=.returned (.tuple #[.int .i64 ((ks.countP (fun k=>decide (aC C k < row)):Nat):Int),.bool (decide (∃k∈ks,aC C k=row))])/\Below w.heap.size w w':=by
  intro A n c ev;rcases zBa ks.length with h0 | h0;have hke:ks= []:=zBk h0;obtain ⟨A9,c9,e9,_⟩:=aR h.orow;rw [ev] at e9;injection e9 with _ e9 _;rw [h0] at e9;subst e9;subst hke;refine (Any.slices_BinarySearchFunc_none shBin A c (.int .i64 (row:Int)) (.func (.func 180) #[] #[.pointer (some ⟨w.heap.size,0,none⟩)]) _).mono ?_;rintro e w' ⟨rfl,rfl⟩;exact ⟨by simp,hbx⟩
  · rcases h.orow.2 with ⟨_,e⟩|⟨g,cap,cs,e,hBg,hg,hn,hm,hz,ht⟩;omega
    · rw [ev] at e;injection e with e1 e2 e3;subst e1 e2 e3;rw [zBl] at ht;obtain ⟨k0,hk0⟩:∃k,k∈ks:=(by obtain ⟨x,hx⟩:=List.exists_mem_of_length_pos h0;exact ⟨x,hx⟩);obtain ⟨cc,hcc⟩:∃cc,C.length=cc+1:=⟨C.length - 1,by have:=h.lt k0 hk0;omega⟩;have hlt':∀k∈ks,k < cc+1:=fun k hk=>by rw [<-hcc];exact h.lt k hk
      have hgb:Bk w g 3 cs:=hg;have hgA:=hgb.below hbx hgb.lt;have hH:=oN hgA hlt' ht;have hbox:(w.alloc (.cells #[.pointer (some ⟨gp,0,none⟩)] 85)).cell? ⟨w.heap.size,0,none⟩=some (.pointer (some ⟨gp,0,none⟩)):=(Bk.new w 85 #[.pointer (some ⟨gp,0,none⟩)]).cell 0;have hcmp:CmpLaysT Tryz.prog 180 #[.pointer (some ⟨w.heap.size,0,none⟩)] (eR cc) (.int .i64 (row:Int)) (fun x=>Lib.compareInt (aC C x.val:Nat) row) g 0 (fF cc ks).size (w.alloc (.cells #[.pointer (some ⟨gp,0,none⟩)] 85)):=(by intro q os dk hdk x;have hk9:=iS (enc:=eR cc) hgA.lt 0 q dk os;obtain ⟨A,n,c,e,hp⟩:=h.prd hbox hbx;have hp9:PRd (sortWorld (eR cc) (w.alloc (.cells #[.pointer (some ⟨gp,0,none⟩)] 85)) g 0 q dk os) w.heap.size gp A n c C:=(by refine ⟨?_,?_,?_⟩;exact (hk9.cell (p:=⟨w.heap.size,0,none⟩) (by simp) (fun e=>by have:=hgb.lt;have e':w.heap.size=g:=e;omega)).trans hp.box;exact (hk9.cell (p:=⟨gp,1,none⟩) (by simp;omega) (Bk.ne h.blk hgb dC)).trans hp.sl;have hl1:=aV h.lrow hbx;have hl2:=aB (w':=sortWorld (eR cc) (w.alloc (.cells #[.pointer (some ⟨gp,0,none⟩)] 85)) g 0 q dk os) hl1 fun b cs' _ hb'=>hk9.bk hb' (Bk.ne hb' hgA dC);obtain ⟨A9,c9,e9,_⟩:=aR h.lrow;rw [e] at e9 hl2;injection e9 with e91 e92 e93;subst e92;exact Rd.of_own hl2);exact (aB6 w.heap.size gp A n c C x.val row _ hp9 (by rw [hcc];exact x.isLt)).mono fun _ _ ⟨h1,h2⟩=>⟨h1,0,#[],by rw [<-h2,Go.Sort.grow_empty];rfl⟩);have hmono:∀a b,a<=b->b < (fF cc ks).size->Lib.compareInt (aC C ((fF cc ks)[b]!).val:Nat) row < 0->Lib.compareInt (aC C ((fF cc ks)[a]!).val:Nat) row < 0:=(by intro a b hab hb hlt;have hb':b < ks.length:=(by simpa [fF] using hb);rw [mC hlt' (zAa hb'),tT] at hlt;rw [mC hlt' (zAa (show a < ks.length by omega)),tT];rcases Nat.eq_or_lt_of_le hab with rfl | hab;exact hlt;have:=zAr.1 hs a b oM hb' hab;omega);have hz9:(fF cc ks).size=ks.length:=(by simp [fF]);have hB:=Any.slices_BinarySearchFunc shBin (eR cc) (kV cc) (.int .i64 (row:Int)) (fun x=>Lib.compareInt (aC C x.val:Nat) row) 180 #[.pointer (some ⟨w.heap.size,0,none⟩)] g 0 c (fF cc ks) (w.alloc (.cells #[.pointer (some ⟨gp,0,none⟩)] 85)) (enters_of Tryz.func180 kR rfl) hcmp hH hgA.lt (by rw [hz9];omega) hmono;obtain ⟨f1,f2⟩:=aID (row:=row) hcc h.lt hs;rw [f1] at f2;rw [f1,f2] at hB;rw [hz9] at hB;refine hB.mono ?_;rintro e w' ⟨rfl,hsw⟩;exact ⟨rfl,hbx.trans ((aFC hH hsw).mono (by simp))⟩
 obtain ⟨A,c,e,_⟩:=aR h.orow;have hc:=hcall _ _ _ e;rw [e] at c2;obtain ⟨i,hi⟩:∃i,ks.countP (fun k=>decide (aC C k < row))=i:=⟨_,rfl⟩;obtain ⟨fd,hfd⟩:∃b,decide (∃k∈ks,aC C k=row)=b:=⟨_,rfl⟩;rw [hi,hfd] at hc;rw [hi,hfd];clear hcall h hs hi hfd hbx e;go_enter Tryz.func119,Tryz.ntmps119;go_wp2_with fail;refine hc.mono ?_;rintro e w' ⟨rfl,hb⟩;go_wp2_with fail;go_ret2;exact ⟨rfl,hb⟩
end Go.Proofs.YtnhmjomhloainaaGreatDoor
