/- Parts of the walk, joined from several texts. Conditions: what each lemma says. -/
import Derived.Test.YtnhmjomhloainaaGreatDoorPq14
import Derived.BigQuiet
import Derived.Lib.AppendZeros
import Derived.Lib.LazyBuf
set_option linter.all false
set_option maxRecDepth 100000
set_option maxHeartbeats 2000000
namespace Go.Proofs.YtnhmjomhloainaaGreatDoor
open Go.RowKit
def OwnF (F:Nat->Prop) (v:Value):Prop:=∀b,v.ownBlock=some b->F b
def Gw (F:Nat->Prop) (n:Nat) (b:Nat):Prop:=F b∨n<=b
theorem Gw.keep {F:Nat->Prop} {w w1 w2:World} (h:Keep F w w1) (k:Keep (Gw F w.heap.size) w1 w2):Keep F w w2:=h.trans' k fun b hb g=>by
 rcases g with g | g;exact g;omega
theorem OwnF.mono {F G:Nat->Prop} {v:Value} (h:OwnF F v) (k:∀b,F b->G b):OwnF G v:=fun b hb=>k b (h b hb)
theorem OwnF.slice {F:Nat->Prop} {g o n c:Nat} (h:F g):OwnF F (.slice (some ⟨g,o,none⟩) n c):=fun b hb=>by
 injection hb with hb;rw [<-hb];exact h
theorem OwnF.at {F:Nat->Prop} {g o n c:Nat} (h:OwnF F (.slice (some ⟨g,o,none⟩) n c)):F g:=h g rfl
def ArenaE (w:World) (F:Nat->Prop) (ga:Nat) (tk:List Bool) (fr:List Nat):Prop:=
 F ga/\∃At ct Af cf,Bk w ga 215 #[.slice At tk.length ct,.slice Af fr.length cf,.int .i64 268435456]/\w.ownsRow 0 4 1 (.slice At tk.length ct) tk.length (tk.map Value.bool)/\w.ownsRow 0 3 1 (.slice Af fr.length cf) fr.length (fr.map sv)/\OwnF F (.slice At tk.length ct)/\OwnF F (.slice Af fr.length cf)
theorem aHr {w:World} {B n m sz c:Nat} {e:TypeId} {A:Option Addr} {xs:List Value} (h:w.ownsRow B e sz (.slice A n c) n xs) (hm:m<=n) (hn:0 < n):w.ownsRow B e sz (.slice A m c) m (xs.take (m*sz)):=by
 rcases h.2 with ⟨h1,h2⟩|⟨g,cap,cur,h1,h2,h3,h4,h5,h6,h7⟩;omega
 · injection h1 with h8 h9 h10;subst h8 h10;have hms:m*sz<=n*sz:=Nat.mul_le_mul_right _ hm;refine ⟨by rw [zAj,h.1];omega,.inr ⟨g,c,cur,rfl,h2,h3,by omega,h5,h6,?_⟩⟩;rw [<-h7,List.take_take,Nat.min_eq_left hms]
theorem aHs {w:World} {B n sz c:Nat} {e:TypeId} {A:Option Addr} {xs:List Value} (h:w.ownsRow B e sz (.slice A n c) n xs):n<=c/\c<=maxLen:=by
 rcases h.2 with ⟨h1,h2⟩|⟨g,cap,cur,h1,h2,h3,h4,h5,h6,h7⟩;injection h1 with _ _ h1;subst h1;subst h2;exact ⟨zAs _,zAp _⟩;injection h1 with _ _ h1;subst h1;exact ⟨h4,h5⟩
theorem ArenaE.vis {w w':World} {F:Nat->Prop} {ga:Nat} {tk:List Bool} {fr:List Nat} (h:ArenaE w F ga tk fr) (k:Vis w w'):ArenaE w' F ga tk fr:=by
 obtain ⟨h0,At,ct,Af,cf,h1,h2,h3,h4,h5⟩:=h;exact ⟨h0,At,ct,Af,cf,k.bk h1 dC dC,k.own h2 dC dC,k.own h3 dC dC,h4,h5⟩
theorem ArenaE.mono {w:World} {F G:Nat->Prop} {ga:Nat} {tk:List Bool} {fr:List Nat} (h:ArenaE w F ga tk fr) (k:∀b,b < w.heap.size->F b->G b):ArenaE w G ga tk fr:=by
 obtain ⟨h0,At,ct,Af,cf,h1,h2,h3,h4,h5⟩:=h;exact ⟨k _ h1.lt h0,At,ct,Af,cf,h1,h2,h3,fun b hb=>k b (h2.lt b hb).2 (h4 b hb),fun b hb=>k b (h3.lt b hb).2 (h5 b hb)⟩
theorem ArenaE.keep {w w':World} {F G:Nat->Prop} {ga:Nat} {tk:List Bool} {fr:List Nat} (h:ArenaE w F ga tk fr) (k:Keep G w w') (hf:∀b t cs,t∈ [215,4,3]->Bk w b t cs->F b->¬G b):ArenaE w' F ga tk fr:=by
 obtain ⟨h0,At,ct,Af,cf,h1,h2,h3,h4,h5⟩:=h;refine ⟨h0,At,ct,Af,cf,k.bk h1 (hf _ _ _ dC h1 h0),aB h2 fun b cs hb hk=>k.bk hk (hf _ _ _ dC hk (h4 b hb)),aB h3 fun b cs hb hk=>k.bk hk (hf _ _ _ dC hk (h5 b hb)),h4,h5⟩
theorem sL (F:Nat->Prop) (ga k:Nat) (tk:List Bool) (fr:List Nat) (w:World) (h:ArenaE w F ga tk (fr++ [k])) (hk:k < tk.length) (ht:tk.length<=1000000) (hf:fr.length < tk.length):
 Calls Tryz.prog 121 #[.pointer (some ⟨ga,0,none⟩)] w fun e w'=>e=.returned (.tuple #[.int .i64 (k:Int),.int .i64 0])/\ArenaE w' F ga (tk.set k true) fr/\Keep F w w':=by
 obtain ⟨hFa,A,c,Af,cf,hb,hrt,hrf,hot,hof⟩:=h;obtain ⟨N,hN⟩:=eqx tk.length;obtain ⟨m,hm⟩:=eqx fr.length;have hm1:(fr++ [k]).length=m+1:=by simp [hm]
 rw [hm1] at hb hrf hof;rw [hN] at hb hrt hot ht hk hf;rw [hm] at hf;obtain ⟨gt,ct,hA,_,hgt⟩:=World.ownsRow.form hrt oM;injection hA with hA _ hcc;subst hA hcc;obtain ⟨gf,c2,hA2,_,hgf⟩:=World.ownsRow.form hrf oM;injection hA2 with hA2 _ hcc2;subst hA2 hcc2;have hcf:=aHs hrf;have hrf2:=aHr (m:=m) hrf oM oM;have hfm:((fr++ [k]).map sv).take (m*1)=fr.map sv:=by
  have:(fr.map sv).length=m:=by rw [zBc,hm]
  rw [zAz,zBl,<-this,List.take_left]
 rw [hfm] at hrf2;have ck:w.cell? ⟨gf,m,none⟩=some (.int .i64 (k:Int)):=by refine (World.ownsRow.cellAt hrf m oM).trans ?_;rw [zAz,zAo (by simp [hm]),zBc,hm,Nat.sub_self];rfl
 obtain ⟨tb,htb⟩:∃tb,tk[k]?=some tb:=⟨_,zAa oM⟩;have ct':w.cell? ⟨gt,k,none⟩=some (.bool tb):=by refine (World.ownsRow.cellAt hrt k oM).trans ?_;rw [zAf,htb];rfl
 have hta:ga≠gt:=fun e=>aZ hrt hb dC (by rw [e];rfl);have hfa:ga≠gf:=fun e=>aZ hrf hb dC (by rw [e];rfl);have hftk:∃cur,Bk w gt 4 cur:=by
  rcases hrt.2 with ⟨h1,_⟩|⟨g',cap,cur,h1,_,h3,_⟩
  · cases h1
  injection h1 with h1 _ _;injection h1 with h1;injection h1 with h1 _;subst h1;exact ⟨cur,h3⟩
 obtain ⟨cur,hbt⟩:=hftk;have hgl:=hb.lt;obtain ⟨Hb,Hrt,Hrf2,Hot,Hof,Hbt,HN,Hm⟩:=hqq8 hb hrt hrf2 hot hof hbt hN hm;clear hb hrt hrf hrf2 hot hof hfm hm1 htb hN hm hbt;go_enter Tryz.func121,Tryz.ntmps121;go_wp2;refine wp_region_any kR ?_;refine aX [10,11,12,13,14,15,16,9] (Grow) (Vs [is (.pointer (some ⟨ga,0,none⟩)),is (.int .i64 ((N -(m+1):Nat):Int)),is (.pointer (some ⟨ga,0,none⟩)),is (.pointer (some ⟨ga,0,none⟩)),is (.pointer (some ⟨ga,2,none⟩)),is (.int .i64 268435456),is (.bool false),is (.bool false)]) _ _ rfl kR bR (fun _ _=>Grow.trans) (cY (by repeat' (first | exact cA _ _ | exact bS _ |(refine zAe.2 ⟨?_,?_⟩)|(intro p hp;cases hp)))) ?_ ?_
 · refine aT ?_;refine pH 0 (.pointer (some ⟨ga,0,none⟩)) ?_;refine sC (fun _ w5 hS _ _ _ hval _ _ _ hK=>?_) ?_
   · have e10:_=_:=hval 0 10 kR rfl;replace hS:(Grow) w w5:=⟨hS.os,hS.tape,hS.output,hS.size,hS.block⟩;go_simp;refine (oH ga (some ⟨gt,0,none⟩) c (some ⟨gf,0,none⟩) cf N (m+1) w5 (Hb.out.below hS Hb.out.lt) oM oM).mono ?_;rintro e w8 ⟨rfl,hb8⟩;exact hK _ _ hb8 rfl
   refine pH 0 (.pointer (some ⟨ga,0,none⟩)) ?_;refine pV 2 12 ?_;refine pV 3 13 ?_;refine sC (fun _ w5 hS _ _ _ hval _ _ _ hK=>?_) ?_
   · have e14:_=_:=hval 4 14 kR rfl;replace hS:(Grow) w w5:=⟨hS.os,hS.tape,hS.output,hS.size,hS.block⟩;have c15:w5.cell? ⟨ga,2,none⟩=some (.int .i64 268435456):=((Hb.out.below hS Hb.out.lt).cell 2).trans rfl;go_simp;exact hK _ _ bR rfl
   refine sC (fun _ _ _ _ _ _ hval _ _ _ hK=>?_) ?_
   · have e11:_=_:=hval 1 11 kR rfl;have e15:_=_:=hval 5 15 kR rfl;have hne:(((N -(m+1):Nat):Int)==268435456)=false:=(by rw [zCb];omega);go_simp;exact hK _ _ bR (by first | rfl | simp [is] |(simp [is];omega))
   refine pV 6 16 ?_;exact aG
 · intro ev w6 hS hval;replace hS:(Grow) w w6:=⟨hS.os,hS.tape,hS.output,hS.size,hS.block⟩;have e9:ev (.tmp 9)=.bool false:=hval 7 9 rfl;simp only [aO,zq1,zq2,Act.put,zq3,zq4,zq5];rw [e9];clear hval;have hbW:=Hb.out.below hS Hb.out.lt;have hbtW:=Hbt.out.below hS Hbt.out.lt;have c0:w6.cell? ⟨ga,0,none⟩=some (.slice (some ⟨gt,0,none⟩) N c):=(hbW.cell 0).trans rfl;have c1:w6.cell? ⟨ga,1,none⟩=some (.slice (some ⟨gf,0,none⟩) (m+1) cf):=(hbW.cell 1).trans rfl;have f1:=hbW.frozen 1;have ft:=hbtW.frozen k;have ck6:w6.cell? ⟨gf,m,none⟩=some (.int .i64 (k:Int)):=(hS.cell (p:=⟨gf,m,none⟩) hgf).trans ck;have ct6:w6.cell? ⟨gt,k,none⟩=some (.bool tb):=(hS.cell (p:=⟨gt,k,none⟩) hgt).trans ct';have hga6:=hbW.lt;have hgt6:=hbtW.lt;have hgf6:gf < w6.heap.size:=zAl hgf hS.size;have hrt6:=aV Hrt.out hS;have hrf6:=aV Hrf2.out hS;obtain ⟨HS,HbW,HbtW,Hrt6,Hrf6⟩:=hqq5 hS hbW hbtW hrt6 hrf6;have e1:IntKind.i64.wrap (((m+1:Nat):Int) - 1)=(m:Int):=(by rw [IntKind.wrap_i64];omega);have i1:(m:Int) < ((m+1:Nat):Int):=oM;have i2:(k:Int) < (N:Int):=oM;have i3:(m:Int)<=(cf:Int):=oM;have i4:((m+1:Nat):Int) > 0:=oM;clear hS hbW hbtW hrt6 hrf6 ck ct';go_wp2_with fail;go_ret2;have hk1:Keep F w w6:=Keep.of_below HS.out;have hb7:=HbW.out.set 1 (.slice (some ⟨gf,0,none⟩) m cf);have hb8:=hb7.far (p:=⟨gt,k,none⟩) hta (.bool true);have hrt7:=aB (w':=w6.setCell ⟨ga,1,none⟩ (.slice (some ⟨gf,0,none⟩) m cf)) Hrt6.out fun b cs _ hb'=>hb'.far (Bk.ne hb' HbW.out dC) _;have hrt8:=(World.ownsRow.stored hrt7 k (.bool true)).1;have hrf7:=aB (w':=w6.setCell ⟨ga,1,none⟩ (.slice (some ⟨gf,0,none⟩) m cf)) Hrf6.out fun b cs _ hb'=>hb'.far (Bk.ne hb' HbW.out dC) _;have hbt7:=HbtW.out.far (p:=⟨ga,1,none⟩) (fun e=>hta e.symm) (.slice (some ⟨gf,0,none⟩) m cf);have hrf8:=aB (w':=(w6.setCell ⟨ga,1,none⟩ (.slice (some ⟨gf,0,none⟩) m cf)).setCell ⟨gt,k,none⟩ (.bool true)) hrf7 fun b cs _ hb'=>hb'.far (Bk.ne hb' hbt7 dC) _;have hFt:F gt:=OwnF.at Hot.out;have hFf:F gf:=OwnF.at Hof.out;rw [show ((tk.map Value.bool).set k (.bool true))=(tk.set k true).map Value.bool by rw [List.map_set]] at hrt8;refine ⟨rfl,⟨hFa,some ⟨gt,0,none⟩,c,some ⟨gf,0,none⟩,cf,?_,?_,?_,?_,?_⟩,?_⟩;rw [zAt,HN.out,Hm.out];exact hb8;rw [zAt,HN.out];exact hrt8;rw [Hm.out];exact hrf8;rw [zAt];exact OwnF.slice hFt;exact OwnF.slice hFf;exact Keep.setCell (F:=F) (Keep.setCell (F:=F) hk1 (p:=⟨ga,1,none⟩) (.inl hFa) _) (p:=⟨gt,k,none⟩) (.inl hFt) _
theorem aCl (F:Nat->Prop) (ga k:Nat) (tk:List Bool) (fr:List Nat) (w:World) (h:ArenaE w F ga tk fr) (hk:tk[k]?=some true):
 Calls Tryz.prog 279 #[.pointer (some ⟨ga,0,none⟩),.int .i64 (k:Int)] w fun e w'=>e=.returned (.bool true)/\w=w':=by
 obtain ⟨hFa,A,c,Af,cf,hb,hrt,hrf,hot,hof⟩:=h;obtain ⟨hkl,_⟩:=zAc.1 hk;obtain ⟨N,hN⟩:=eqx tk.length;rw [hN] at hb hrt hkl;obtain ⟨gt,ct,hA,_,hgt⟩:=World.ownsRow.form hrt oM;injection hA with hA _ hcc;subst hA hcc;have c0:w.cell? ⟨ga,0,none⟩=some (.slice (some ⟨gt,0,none⟩) N c):=(hb.cell 0).trans rfl;have ck:w.cell? ⟨gt,k,none⟩=some (.bool true):=by refine (World.ownsRow.cellAt hrt k oM).trans ?_;rw [zAf,hk];rfl
 have hgl:=hb.lt;have hkI:(k:Int) < (N:Int):=oM;have hk0:decide ((k:Int)>=0)=true:=by simp
 clear hb hrt hrf hot hof hN hk;go_enter Tryz.func279,Tryz.ntmps279;go_wp2_with fail;go_ret;exact ⟨rfl,rfl⟩
theorem aCe (F:Nat->Prop) (ga gs k:Nat) (tk:List Bool) (fr:List Nat) (w:World) (h:ArenaE w F ga tk fr) (hk:tk[k]?=some true) (hs:Bk w gs 3 #[.int .i64 (k:Int)]) (hf:fr.length<=1000000):
 Calls Tryz.prog 246 #[.pointer (some ⟨ga,0,none⟩),.slice (some ⟨gs,0,none⟩) 1 1] w fun e w'=>e=.returned (.int .i64 0)/\ArenaE w' (Gw F w.heap.size) ga (tk.set k false) (fr++ [k])/\Keep F w w':=by
 have his:=aCl F ga k tk fr w h hk;obtain ⟨hFa,A,c,Af,cf,hb,hrt,hrf,hot,hof⟩:=h;obtain ⟨hkl,_⟩:=zAc.1 hk;obtain ⟨i0,hi0,hz0,hz1,hz2⟩:=info_parts fK;obtain ⟨N,hN⟩:=eqx tk.length;obtain ⟨m,hm⟩:=eqx fr.length;rw [hm] at hb hrf hof hf;rw [hN] at hb hrt hot hkl;obtain ⟨gt,ct,hA,_,hgt⟩:=World.ownsRow.form hrt oM;injection hA with hA _ hcc;subst hA hcc;have ck:w.cell? ⟨gt,k,none⟩=some (.bool true):=by refine (World.ownsRow.cellAt hrt k oM).trans ?_;rw [zAf,hk];rfl
 have hta:ga≠gt:=fun e=>aZ hrt hb dC (by rw [e];rfl);have hftk:∃cur,Bk w gt 4 cur:=by
  rcases hrt.2 with ⟨h1,_⟩|⟨g',cap,cur,h1,_,h3,_⟩
  · cases h1
  injection h1 with h1 _ _;injection h1 with h1;injection h1 with h1 _;subst h1;exact ⟨cur,h3⟩
 obtain ⟨cur,hbt⟩:=hftk;have ft:=hbt.frozen k;have c0:w.cell? ⟨ga,0,none⟩=some (.slice (some ⟨gt,0,none⟩) N c):=(hb.cell 0).trans rfl;have cs0:w.cell? ⟨gs,0,none⟩=some (.int .i64 (k:Int)):=(hs.cell 0).trans rfl;have hgl:=hb.lt;have hgsl:=hs.lt;have hkI:(k:Int) < (N:Int):=oM;have hst:gs≠gt:=Bk.ne hs hbt dC;obtain ⟨W,hW⟩:=eqx (w.setCell ⟨gt,k,none⟩ (.bool false));have hbW:Bk W ga 215 #[.slice (some ⟨gt,0,none⟩) N c,.slice Af m cf,.int .i64 268435456]:=by rw [<-hW];exact hb.far (p:=⟨gt,k,none⟩) hta _
 have hsW:Bk W gs 3 #[.int .i64 (k:Int)]:=by rw [<-hW];exact hs.far (p:=⟨gt,k,none⟩) hst _
 have hrtW:W.ownsRow 0 4 1 (.slice (some ⟨gt,0,none⟩) N c) N ((tk.set k false).map Value.bool):=by rw [<-hW,List.map_set];exact (World.ownsRow.stored hrt k (.bool false)).1
 have hrfW:W.ownsRow 0 3 1 (.slice Af m cf) m (fr.map sv):=by rw [<-hW];exact aB hrf fun b cs _ hb'=>hb'.far (p:=⟨gt,k,none⟩) (Bk.ne hb' hbt dC) _
 have hFt:F gt:=OwnF.at hot;have hkW:Keep F w W:=by rw [<-hW];exact Keep.setCell (F:=F) (Keep.refl _ _) (p:=⟨gt,k,none⟩) (.inl hFt) _
 have d0:W.cell? ⟨ga,1,none⟩=some (.slice Af m cf):=(hbW.cell 1).trans rfl;have hgW:=hbW.lt;have hrW:Rd W W.heap.size 1 (some ⟨gs,0,none⟩) 1 [.int .i64 (k:Int)]:=⟨rfl,fun _=>⟨gs,0,rfl,hsW.lt,fun j u hu=>by
  rw [zBi,hsW.cell];rcases j with _ | j;exact hu
  · simp at hu⟩⟩
 obtain ⟨HbW,HrtW,HrfW,HkW,HrW,HW,Hof,Hm,HN⟩:=hqq9 hbW hrtW hrfW hkW hrW hW hof hm hN;have Hne:=lhd (aZ hrfW hbW dC);clear hb hrt hrf hot hof hN hm hbt hs hk hbW hsW hrtW hrfW hkW hW hrW;go_enter Tryz.func246,Tryz.ntmps246;go_wp2_with fail;refine wp_loop_rounds 2 ?_;rw [rounds_succ];go_wp2_with fail;refine his.mono ?_;rintro e w1 ⟨rfl,rfl⟩;clear his;go_wp2_with fail;rw [HW.out];clear c0 cs0 ck ft;rw [rounds_succ];go_wp2_with (at_builtin;refine bY _ rfl (.tmp 48) (.tmp 49) _ rfl 0 3 i0 (.int .i64 0) 1 8 Tryz.underlying22 hi0 hz0 hz1 hz2 rfl dC (.slice Af m cf) m _ rfl HrfW.out _ _ _ _ _ rfl HrW.out (by simp [Value.oneCell']) (by unfold maxLen;omega) oM (zAp _) ?_;intro v5 w5 hown5 hg5 hat5;have hbk5:=HbW.out.grown hg5 Hne.out;have f5:=hbk5.frozen 1;have d5:=hbk5.cell 1;obtain ⟨Hown5,Hg5,Hat5,Hbk5⟩:=hqq4 hown5 hg5 hat5 hbk5;obtain ⟨A9,c9,rfl,hm9⟩:=aS hown5;clear hown5 hg5 hat5 hbk5 hm9);go_ret;have hk5:Keep F w w5:=HkW.out.grown Hg5.out (fun j hj=>.inl (Hof.out j hj));have hb6:=Hbk5.out.set 1 (.slice A9 (m+1) c9)
 have hrt5:=World.ownsRow.kept HrtW.out Hg5.out (by
  rcases hh:(Value.slice Af m cf).ownBlock with _ | x
  · right;simp [Value.ownBlock]
  · right;intro e;have e':gt=x:=(by simpa [Value.ownBlock] using e);subst e';rcases HrfW.out.2 with ⟨h1,_⟩|⟨g',cap,cur',h1,_,h3,_⟩
    · rw [h1] at hh;simp [Value.ownBlock] at hh
    · rw [h1] at hh;have e2:g'=gt:=(by simpa [Value.ownBlock] using hh);subst e2;exact aZ HrtW.out (t:=3) h3 dC rfl)
 have hrt6:=aB (w':=w5.setCell ⟨ga,1,none⟩ (.slice A9 (m+1) c9)) hrt5 fun b cs _ hb'=>hb'.far (Bk.ne hb' Hbk5.out dC) _;have hrf6:=aB (w':=w5.setCell ⟨ga,1,none⟩ (.slice A9 (m+1) c9)) Hown5.out fun b cs _ hb'=>hb'.far (Bk.ne hb' Hbk5.out dC) _;have hsz:=HkW.out.size;refine ⟨rfl,⟨.inl hFa,some ⟨gt,0,none⟩,c,A9,c9,?_,?_,?_,?_,?_⟩,?_⟩;rw [zAt,HN.out,zAi,Hm.out];exact hb6;rw [zAt,HN.out];exact hrt6;rw [zAi,Hm.out,zAz];exact hrf6;exact OwnF.slice (.inl hFt);intro b hb;rw [zAi,Hm.out] at hb;rcases Hat5.out with h | h;exact .inl (Hof.out b (h.symm.trans hb));have e3:=h.symm.trans hb;injection e3 with e3;exact .inr oM;exact Keep.setCell (F:=F) hk5 (p:=⟨ga,1,none⟩) (.inl hFa) _
theorem oX:(Tryz.prog.info? 5).map (fun i=>(i.zero,i.size,i.bytes))=some (some (.int .u8 0),1,1):=by kernel_rfl
theorem aG3 (n:Nat) (w:World) (hn:n<=1099511627776):
 Calls Tryz.prog 110 #[.slice none 0 0,.int .i64 (n:Int)] w fun e w'=>∃v,e=.returned v/\w'.ownsRow w.heap.size 5 1 v 0 []/\Below w.heap.size w w':=by
 obtain ⟨i0,hi0,hz0,hz1,hz2⟩:=info_parts oX;rcases zBa n with h0 | h0
 · subst h0;go_enter Tryz.func110,Tryz.ntmps110;go_wp2;go_ret;exact ⟨_,rfl,World.ownsRow_nil _ _ _ _,Below.refl _ _⟩
 · have hrun:=Lib.run_append_nil_zeros (P:=Tryz.prog) w 23 3 23 5 i0 (.int .u8 0) .i64 .i64 Tryz.underlying23 Tryz.underlying3 hi0 hz0 n h0 oM oM (by rw [hz2];omega);have hge:=grownCap_ge w n 0 5;have hle:=grownCap_le_maxLen w n 0 5 (by unfold maxLen;omega);generalize grownCap w n 0 5=cp at*
   have hsz:(Builtin.zeroCells (Value.int .u8 0).cells n++Builtin.zeroCells (Value.int .u8 0).cells (cp - n)).size=cp*1:=(by simp [Builtin.zeroCells,Value.cells];omega);obtain ⟨Hsz,Hrun⟩:=hqq2 hsz hrun;clear hsz hrun;have hdec:¬((n:Int) < 0):=oM;go_enter Tryz.func110,Tryz.ntmps110;go_wp2_with (at_builtin;refine Lib.wpList_append_run _ rfl (.tmp 20) (.tmp 21) _ _ rfl _ _ rfl rfl _ _ Hrun.out ?_);go_ret;exact ⟨_,rfl,World.ownsRow_made _ _ _ nL hle Hsz.out,bR.drew.alloc nL _⟩
structure Sl where
 A:Option Addr
 n:Nat
 c:Nat
 l:List UInt8
def slV (s:Sl):Value:=.slice s.A s.n s.c
def gD (ss:List Sl):List UInt8:=ss.flatMap (·.l)
theorem yZ (ss:List Sl) (k:Nat) (s:Sl) (h:ss[k]?=some s):gD (ss.take (k+1))=gD (ss.take k)++s.l:=by
 rw [zAv,h];simp [gD]
theorem aAm (ss:List Sl) (k:Nat):(gD (ss.take k)).length<=(gD ss).length:=by
 have:gD ss=gD (ss.take k)++gD (ss.drop k):=by unfold gD;rw [<-List.flatMap_append,zAu]
 rw [this,zAi];omega
theorem lL (A0:Option Addr) (m0 c0 B:Nat) (ss:List Sl) (T:List UInt8) (N:Nat) (hT:gD ss=T) (hN:T.length=N) (w:World) (hr0:Rd w B 1 A0 m0 (ss.map slV)) (hss:∀s∈ss,Rd w B 1 s.A s.n (s.l.map bv)) (hB:B<=w.heap.size) (hm:m0<=1099511627776) (hn:N<=1099511627776):
 Calls Tryz.prog 49 #[.slice A0 m0 c0] w fun e w'=>∃A' c',e=.returned (.slice A' N c')/\Made w' w.heap.size 5 1 A' N c' (T.map bv)/\Below w.heap.size w w':=by
 obtain ⟨i0,hi0,hz0,hz1,hz2⟩:=info_parts oX;have hlen:ss.length=m0:=by simpa using hr0.1
 have hpart:∀k,(gD (ss.take k)).length<=1099511627776:=fun k=>by have:=aAm ss k;rw [hT] at this;omega
 have hrow:∀k s,ss[k]?=some s->s.l.length=s.n/\(gD (ss.take (k+1))).length=(gD (ss.take k)).length+s.n:=fun k s hs=>by
  have h1:=(hss s (zAd hs)).1;have h2:s.l.length=s.n:=by simpa using h1
  rw [yZ ss k s hs,zAi,h2];exact ⟨rfl,rfl⟩
 obtain ⟨Hlen,Hpart,Hrow,Hr0,Hss,HT,HN⟩:=hqq7 hlen hpart hrow (hr0.mono hB) (fun s hs=>(hss s hs).mono hB) hT hN;clear hlen hpart hrow hr0 hss hT hN;go_enter Tryz.func49,Tryz.ntmps49;go_wp2;go_loopw [3,11] (fun v i wr=>∃k:Nat,k<=m0/\i=.int .i64 k/\v=.int .i64 ((gD (ss.take k)).length:Int)/\w=wr) (fun _ i _=>m0 -(intOf i).toNat)
 case atStart=>exact ⟨0,zAp _,rfl,by simp [gD],rfl⟩
 case round=>
  obtain ⟨k,hk,rfl,rfl,rfl⟩:=hrel;by_cases hlt:k < m0
  · obtain ⟨s,hs⟩:∃s,ss[k]?=some s:=⟨ss[k]'(by have:=Hlen.out;omega),zAa (by have:=Hlen.out;omega)⟩;obtain ⟨b,off,u,rfl,hbl,hu,hc⟩:=Hr0.out.get hlt;rw [zAf,hs] at hu;simp at hu;subst hu;unfold slV at hc;obtain ⟨h1,h2⟩:=Hrow.out k s hs;have h3:=Hpart.out (k+1);generalize hq:(gD (ss.take k)).length=q at*
    have Hnext:=lhd h2;rw [h2] at h3;clear h1 h2 hs hq;have hneg:¬((q:Int)+(s.n:Int) < 0):=oM;go_wp2;go_roundw
    case rel=>exact ⟨k+1,by omega,by go_num,by rw [Hnext.out];go_num,trivial⟩
    case measure=>simp [intOf];omega
  · have hkm:k=m0:=oM;have hge:m0<=k:=oM;have htk:ss.take k=ss:=zAg (by have:=Hlen.out;omega);rw [htk,HT.out,HN.out];clear hkm htk;go_wp2_with fail;refine (aG3 N _ hn).mono ?_;rintro e w1 ⟨v1,rfl,hown1,hb1⟩;go_wp2_with fail;go_loopw [6,27] (fun v i wr=>∃k:Nat,k<=m0/\i=.int .i64 k/\wr.ownsRow w.heap.size 5 1 v (gD (ss.take k)).length ((gD (ss.take k)).map bv)/\Below w.heap.size w wr) (fun _ i _=>m0 -(intOf i).toNat)
    case atStart=>exact ⟨0,zAp _,rfl,hown1,hb1⟩
    case round=>
        obtain ⟨k,hk,rfl,hown,hb⟩:=hrel;have hsz:=hb.size;by_cases hlt:k < m0
        · obtain ⟨s,hs⟩:∃s,ss[k]?=some s:=⟨ss[k]'(by have:=Hlen.out;omega),zAa (by have:=Hlen.out;omega)⟩;obtain ⟨b,off,u,rfl,hbl,hu,hc⟩:=(Hr0.out.below hb).get hlt;rw [zAf,hs] at hu;simp at hu;subst hu;unfold slV at hc;have hrs:=lhd ((Hss.out s (zAd hs)).below hb);obtain ⟨h1,h2⟩:=Hrow.out k s hs;have h3:=Hpart.out (k+1);obtain ⟨hsn,Hnext⟩:=hqq2 (yZ ss k s hs) h2;generalize hq:(gD (ss.take k)).length=q at*
          rw [h2] at h3;have Hown:=lhd hown;clear h1 h2 hs hown;go_wp2_with (at_builtin;refine bY _ rfl (.tmp 31) (.tmp 32) _ rfl w.heap.size 5 i0 (.int .u8 0) 1 1 Tryz.underlying23 hi0 hz0 hz1 hz2 rfl dC _ q _ rfl Hown.out w.heap.size s.A s.n s.c _ rfl hrs.out (kW _) (by unfold maxLen;omega) oM hsz ?_;intro v5 w5 hown5 hg5 hat5);have hB5:=aW hb Hown.out hg5 hsz;go_roundw
          case rel=>refine ⟨k+1,by omega,by go_num,?_,hB5⟩;rw [Hnext.out,hsn.out,zAz];exact hown5
          case measure=>simp [intOf];omega
        · have hkm:k=m0:=oM;have hge:m0<=k:=oM;have htk:ss.take k=ss:=zAg (by have:=Hlen.out;omega);rw [htk,HT.out,HN.out] at hown;obtain ⟨A',c',rfl,hm'⟩:=aS hown;clear hkm htk hown;go_wp2;go_ret;exact ⟨A',c',rfl,hm',hb⟩
end Go.Proofs.YtnhmjomhloainaaGreatDoor
namespace Go.Proofs.YtnhmjomhloainaaGreatDoor
open Go.RowKit Go.Shelf
def qP (w:World) (C:List (Nat×Nat)) (e:Ending) (w':World):Prop:=
 ∃A c,e=.returned (.slice A C.length c)/\Made w' w.heap.size 159 2 A C.length c (bO C)/\Below w.heap.size w w'
end Go.Proofs.YtnhmjomhloainaaGreatDoor
namespace Go.Proofs.YtnhmjomhloainaaGreatDoor
open Go.RowKit Go.Shelf
open Go.Sort (Holds PermIn SortedIn SWO heap_grow_old)
theorem aFG {w:World} {m base g cap n k:Nat} {os:Array Obj} {cur:Array Value} (d':Array (Fin (m+1))) (hd:d'.size=n) (hb:Bk w g 3 cur) (hg:base<=g) (h1:n<=cap) (h2:cap<=maxLen) (h3:cur.size=cap):
 (sortWorld (eR m) w g 0 k d' os).ownsRow base 3 1 (.slice (some ⟨g,0,none⟩) n cap) n ((d'.toList.map fun x=>x.val).map sv):=by
 have hgl:=hb.lt;have hh:(sortWorld (eR m) w g 0 k d' os).heap[g]?=some (.cells (Go.Sort.putCells (eR m) 0 d' cur) 3 (0,0)):=by unfold sortWorld;rw [heap_grow_old _ _ (by show g < (w.heap.modify g _).size;simpa using hgl)];have hb':w.heap[g]?=some (.cells cur 3 (0,0)):=hb;simp [Go.Sort.putRow,Go.Sort.mapBlock,Go.Sort.ahead,Array.getElem?_modify,hb',Go.Sort.onCells]
 refine ⟨by simp [hd],.inr ⟨g,cap,_,rfl,hg,hh,h1,h2,by simp [Go.Sort.putCells,h3],?_⟩⟩;rw [zBl];refine fV (by simp [hd]) (by simp [Go.Sort.putCells];omega) fun j hj=>?_;have hjc:j < cur.size:=oM;have hjd:j < d'.size:=oM;simp [Go.Sort.putCells,Array.getElem?_mapIdx,hjc,hjd,eR,sv,aBy]
theorem aEB {c:Nat} {ks:List Nat} (h:∀k∈ks,k < c+1):(fF c ks).toList.map (fun x=>x.val)=ks:=by
 unfold fF;rw [zCg]
 conv=>rhs;rw [<-List.map_id ks]
 exact List.map_congr_left fun k hk=>zBu (h k hk)
def cfK (c:Nat) (f:Nat->Nat) (x y:Fin (c+1)):Int:=Lib.compareInt ((f x.val:Nat):Int) ((f y.val:Nat):Int)
theorem zY (c:Nat) (f:Nat->Nat) (x y:Fin (c+1)):ltOf (cfK c f) x y=decide (f x.val < f y.val):=by
 unfold ltOf cfK;rw [decide_eq_decide,tT];omega
theorem aHe (c:Nat) (f:Nat->Nat):SWO (ltOf (cfK c f)) where
 irrefl x:=by rw [zY];simp
 trans x y z h1 h2:=by
  rw [zY,zCa] at*
  omega
 ntrans x y z h1 h2:=by
  rw [zY,decide_eq_false_iff_not] at*
  omega
theorem aA4 {c:Nat} {ks:List Nat} {f:Nat->Nat} {d':Array (Fin (c+1))} (h:∀k∈ks,k < c+1) (hp:PermIn 0 (fF c ks).size (fF c ks) d') (hs:SortedIn (ltOf (cfK c f)) 0 (fF c ks).size d') (hnd:ks.Nodup) (hf:∀x∈ks,∀y∈ks,f x=f y->x=y):
 (d'.toList.map fun x=>x.val).Perm ks/\(d'.toList.map fun x=>x.val).Pairwise (fun a b=>f a < f b):=by
 have hperm:(d'.toList.map fun x=>x.val).Perm ks:=by have:=(uN hp).map (fun x:Fin (c+1)=>x.val);rwa [aEB h] at this
 refine ⟨hperm,?_⟩;have hnd':(d'.toList.map fun x=>x.val).Nodup:=hperm.nodup_iff.2 hnd;rw [zAr];intro i j hi hj hij;have hi':i < d'.size:=by simpa using hi
 have hj':j < d'.size:=by simpa using hj
 have h1:=hs i j (zAp _) hij (by rw [<-hp.1];exact hj');rw [zY,decide_eq_false_iff_not,aBy _ _ hi',aBy _ _ hj'] at h1;have e1:(d'.toList.map fun x=>x.val)[i]=d'[i].val:=by simp
 have e2:(d'.toList.map fun x=>x.val)[j]=d'[j].val:=by simp
 have hne:(d'.toList.map fun x=>x.val)[i]≠(d'.toList.map fun x=>x.val)[j]:=zAr.1 hnd' i j hi hj hij;have m1:d'[i].val∈ks:=hperm.subset (by rw [<-e1];exact zBj hi);have m2:d'[j].val∈ks:=hperm.subset (by rw [<-e2];exact zBj hj);rw [e1,e2] at hne⊢;have hne2:f d'[i].val≠f d'[j].val:=fun e=>hne (hf _ m1 _ m2 e);omega
end Go.Proofs.YtnhmjomhloainaaGreatDoor
namespace Go.Proofs.YtnhmjomhloainaaGreatDoor
open Go.RowKit Go.Shelf
theorem yF (B:Nat) (A:Option Addr) (n c i:Nat) (ks:List Nat) (w:World) (hown:w.ownsRow B 3 1 (.slice A n c) n (ks.map sv)) (hi:i < n) (hn:n<=1000000):
 Calls Tryz.prog 247 #[.slice A n c,.int .i64 (i:Int),.int .i64 ((i+1:Nat):Int)] w fun e w'=>e=.returned (.slice A (n - 1) c)/\w'.ownsRow B 3 1 (.slice A (n - 1) c) (n - 1) ((aI ks i).map sv)/\Keep (fun b=>(Value.slice A n c).ownBlock=some b) w w':=by
 have hl:ks.length=n:=by have:=hown.1;simpa using this
 obtain ⟨g,k1,e1,_,hgl⟩:=World.ownsRow.form hown oM;injection e1 with e1 _ e3;subst e1 e3;obtain ⟨cs,hg,hcs,hnc,hm,hBg,hcell⟩:=rG hown oM;obtain ⟨zs,hzs⟩:∃zs:List Int,ks.map (fun k=>((k:Nat):Int))=zs:=⟨_,rfl⟩;have hzl:zs.length=n:=by rw [<-hzs,zBc,hl]
 have hzv:ks.map sv=zs.map (Value.int .i64):=by rw [<-hzs,zCg];rfl
 have hH:Sort.Holds (Value.int .i64) w g 0 zs.toArray:=holds_of_blockI hg (by
  refine fV (by simp) oM fun j hj=>?_;rw [hcell j oM,hzv])
 have hcall:=Any.slices_Delete_int shDel g 0 c i (i+1) zs w hH oM (by unfold maxLen at hm;omega) oM oM;rw [hzl] at hcall;have hdl:(aI ks i).length+1=n:=by rw [dA _ oM,hl]
 have hd1:(aI zs i).length+1=n:=by rw [dA _ oM,hzl]
 obtain ⟨ys,hys⟩:=eqx (zs.take i++zs.drop (i+1)++List.replicate (i+1 - i) 0);have hyl:ys.length=n:=by rw [<-hys];simp [hzl];omega
 have hyg:∀j,j < n - 1->ys[j]?=(aI zs i)[j]?:=fun j hj=>by rw [<-hys];show ((aI zs i)++List.replicate (i+1 - i) 0)[j]?=_;rw [zAn oM]
 rw [hys] at hcall;clear hys;refine hcall.mono ?_;rintro e w' ⟨rfl,q,rfl⟩;have hgr:=grownBy_sortedI (w:=w) (g:=g) (n:=q) (os:=#[]) ys.toArray;have hhp:=heap_sortedI (w:=w) (g:=g) (n:=q) (os:=#[]) ys.toArray hg;rw [Go.Sort.grow_empty] at hgr hhp;refine ⟨by rw [show i+1 - i=1 by omega],⟨by rw [zBc,zBl];omega,.inr ⟨g,c,_,rfl,hBg,hhp,by omega,hm,by simp [Go.Sort.putCells];omega,?_⟩⟩,⟨hgr.os,hgr.tape,hgr.output,hgr.size,fun b hb hne=>hgr.block b hb fun e=>hne e.symm⟩⟩;rw [zBl];refine fV (by rw [zBc];omega) (by simp [Go.Sort.putCells];omega) fun j hj=>?_;have hjd:j < (aI ks i).length:=oM;have hyn:(aI zs i)[j]?=some (((aI ks i)[j]:Nat):Int):=by rw [<-hzs,<-vG,zAf,zAa hjd];rfl
 rw [zAf,zAa hjd];have h8:=hyg j hj;rw [hyn] at h8;have hjs:j < cs.size:=oM;have hjy:j < ys.length:=oM;rw [zAa hjy] at h8;injection h8 with h8;simp [Go.Sort.putCells,Array.getElem?_mapIdx,hjs,hjy,h8,sv]
end Go.Proofs.YtnhmjomhloainaaGreatDoor
namespace Go.Proofs.YtnhmjomhloainaaGreatDoor
open Go.RowKit
theorem aAF (B gp ga:Nat) (vl vo vt vf:Value) (R P:Nat) (ks:List Nat) (C:List (Nat×Nat)) (tk:List Bool) (fr:List Nat) (row:Nat) (w:World) (h:PermAt w B gp ga vl vo vt vf R P ks C tk fr) (hs:ks.Pairwise (fun a b=>aC C a < aC C b)) (hk:ks.length<=1099511627776) (hno:∀k∈ks,aC C k≠row):
 Calls Tryz.prog 217 #[.pointer (some ⟨gp,0,none⟩),.int .i64 (row:Int)] w fun e w'=>e=.returned (.int .i64 (-1))/\Below w.heap.size w w':=by
 have hat:=jH B gp ga vl vo vt vf R P ks C tk fr row w h hs hk;have hd:decide (∃k∈ks,aC C k=row)=false:=by simp only [decide_eq_false_iff_not];rintro ⟨k,h1,h2⟩;exact hno k h1 h2
 rw [hd] at hat;clear h hs hno hd;go_enter Tryz.func217,Tryz.ntmps217;go_wp2_with fail;refine hat.mono ?_;rintro e w1 ⟨rfl,hb1⟩;have Hb1:=lhd hb1;clear hat hb1;go_wp2_with fail;go_ret;exact ⟨rfl,Hb1.out⟩
theorem aAE (B gp ga:Nat) (vl vo vt vf:Value) (R P:Nat) (ks:List Nat) (C:List (Nat×Nat)) (tk:List Bool) (fr:List Nat) (row j:Nat) (w:World) (h:PermAt w B gp ga vl vo vt vf R P ks C tk fr) (hs:ks.Pairwise (fun a b=>aC C a < aC C b)) (hk:ks.length<=1099511627776) (hC:C.length<=1099511627776) (hj:j∈ks) (hjr:aC C j=row):
 Calls Tryz.prog 217 #[.pointer (some ⟨gp,0,none⟩),.int .i64 (row:Int)] w fun e w'=>e=.returned (.int .i64 ((aF C j:Nat):Int))/\Below w.heap.size w w':=by
 have hat:=jH B gp ga vl vo vt vf R P ks C tk fr row w h hs hk;have hd:decide (∃k∈ks,aC C k=row)=true:=zBz ⟨j,hj,hjr⟩;rw [hd] at hat;obtain ⟨x,hx1,hx2⟩:=(rN hs row).2 ⟨j,hj,hjr⟩;obtain ⟨q,hq⟩:∃q,(ks.countP fun k=>decide (aC C k < row))=q:=⟨_,rfl⟩;rw [hq] at hx1 hat;have hxj:x=j:=by
  obtain ⟨a,ha,ea⟩:=zBo.1 hj;obtain ⟨b,eb⟩:=zAc.1 hx1;rcases Nat.lt_trichotomy a q with h1 | h1 | h1;have:=zAr.1 hs a q ha b h1;rw [ea,eb] at this;omega
  · subst h1;rw [<-ea,<-eb]
  have:=zAr.1 hs q a b ha h1;rw [ea,eb] at this;omega
 subst hxj;have hqn:q < ks.length:=(zAc.1 hx1).1;have hxC:x < C.length:=h.lt x hj;obtain ⟨g,cap,hvo,hnc,hgl⟩:=World.ownsRow.form h.orow oM;obtain ⟨g2,cap2,hvl,hnc2,hgl2⟩:=World.ownsRow.form h.lrow oM;subst hvo;subst hvl;have hpair:=(cD C x hxC).2;obtain ⟨H,Hx1,Hpair⟩:=hqq3 h hx1 hpair;have hqI:(q:Int) < (ks.length:Int):=oM;have hxI:(x:Int) < (C.length:Int):=oM;clear h hs hd hx2 hq hx1 hpair hj hjr;go_enter Tryz.func217,Tryz.ntmps217;go_wp2_with fail;refine hat.mono ?_;rintro e w1 ⟨rfl,hb1⟩;have h1:=H.out.below hb1;have c1:∀d,(w1.drewN d).cell? ⟨gp,1,none⟩=some (.slice (some ⟨g2,0,none⟩) C.length cap2):=fun d=>(h1.blk.cell 1).trans rfl;have c2:∀d,(w1.drewN d).cell? ⟨gp,2,none⟩=some (.slice (some ⟨g,0,none⟩) ks.length cap):=fun d=>(h1.blk.cell 2).trans rfl;have hgp:=h1.blk.lt;have c3:∀d,(w1.drewN d).cell? ⟨g,q,none⟩=some (.int .i64 (x:Int)):=fun d=>(World.ownsRow.cellAt h1.orow q oM).trans (by rw [zAf,Hx1.out];rfl);have c4:∀d,(w1.drewN d).cell? ⟨g2,x*2+1,none⟩=some (.int .i64 ((aF C x:Nat):Int)):=fun d=>(World.ownsRow.cellAt h1.lrow (x*2+1) oM).trans Hpair.out;have Hb1:=lhd hb1;have hgl1:=zAl hgl hb1.size;have hgl21:=zAl hgl2 hb1.size;obtain ⟨pp,hpp⟩:=eqx (aF C x);rw [hpp] at c4;have Hpp:=lhd hpp;clear hat hb1 h1 hpp;go_wp2_with fail;go_quiet (fail);go_wp2_with fail;go_ret;exact ⟨by rw [Hpp.out];rfl,below_drewN Hb1.out _⟩
end Go.Proofs.YtnhmjomhloainaaGreatDoor
