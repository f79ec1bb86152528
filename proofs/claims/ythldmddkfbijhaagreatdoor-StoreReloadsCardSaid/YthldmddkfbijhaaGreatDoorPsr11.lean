/- Lemmas of the walk. Conditions: each its own. -/
import Derived.Test.YthldmddkfbijhaaGreatDoorPsr8
import Derived.Test.YthldmddkfbijhaaGreatDoorPsr10
import Derived.Test.YthldmddkfbijhaaGreatDoorProg
import Derived.Test.YthldmddkfbijhaaGreatDoorShl
import Derived.Test.YthldmddkfbijhaaGreatDoorSht
set_option linter.all false
set_option maxRecDepth 100000
set_option maxHeartbeats 2000000
namespace Go.Proofs.YthldmddkfbijhaaGreatDoor
section
open Go.RowKit Go Go.Sort
theorem sufLt.tri {l:List Nat} {p q:Nat} (hp:p < l.length) (hq:q < l.length) (hpq:p≠q):sufLt l p q∨sufLt l q p:=by
 rcases oS (a:=aN l) l.length p q with h | h | h;exact .inl ⟨_,h⟩;exact absurd h (aFu nL hp hq hpq);exact .inr ⟨_,h⟩
section
variable {α : Type} [Inhabited α] {enc : α -> Value} {w : World} {blk : Nat} {t : TypeId} {d d' : Array α}
end
section
variable {m : Nat} {d : Array (Fin (m + 1))}
end
end
section
open Go.RowKit
theorem aJL {w:World} {B n m sz c:Nat} {e:TypeId} {A:Option Addr} {xs:List Value} (h:w.ownsRow B e sz (.slice A n c) n xs) (hm:m<=n) (hn:0 < n):w.ownsRow B e sz (.slice A m c) m (xs.take (m*sz)):=by
 rcases h.2 with ⟨h1,h2⟩|⟨g,cap,cur,h1,h2,h3,h4,h5,h6,h7⟩;omega
 · injection h1 with h8 h9 h10;subst h8 h10;have hms:m*sz<=n*sz:=Nat.mul_le_mul_right _ hm;refine ⟨by rw [zAj,h.1];omega,.inr ⟨g,c,cur,rfl,h2,h3,by omega,h5,h6,?_⟩⟩;rw [<-h7,List.take_take,zCt hms]
theorem aJM {w:World} {B n sz c:Nat} {e:TypeId} {A:Option Addr} {xs:List Value} (h:w.ownsRow B e sz (.slice A n c) n xs):n<=c/\c<=maxLen:=by
 rcases h.2 with ⟨h1,h2⟩|⟨g,cap,cur,h1,h2,h3,h4,h5,h6,h7⟩;injection h1 with _ _ h1;subst h1;subst h2;exact ⟨zAs _,zAp _⟩;injection h1 with _ _ h1;subst h1;exact ⟨h4,h5⟩
theorem uS (F:Nat->Prop) (ga k:Nat) (tk:List Bool) (fr:List Nat) (w:World) (h:ArenaE w F ga tk (fr++ [k])) (hk:k < tk.length) (ht:tk.length<=1000000) (hf:fr.length < tk.length):
 Calls Tryz.prog 150 #[ga] w fun e w'=>e=.returned (.tuple #[(k:Int),.int .i64 0])/\ArenaE w' F ga (tk.set k true) fr/\Keep F w w':=by
 obtain ⟨hFa,A,c,Af,cf,hb,hrt,hrf,hot,hof⟩:=h;obtain ⟨N,hN⟩:=eqx tk.length;obtain ⟨m,hm⟩:=eqx fr.length;have hm1:(fr++ [k]).length=m+1:=by simp [hm]
 rw [hm1] at hb hrf hof;rw [hN] at hb hrt hot ht hk hf;rw [hm] at hf;obtain ⟨gt,ct,hA,_,hgt⟩:=World.ownsRow.form hrt oM;injection hA with hA _ hcc;subst hA hcc;obtain ⟨gf,c2,hA2,_,hgf⟩:=World.ownsRow.form hrf oM;injection hA2 with hA2 _ hcc2;subst hA2 hcc2;have hcf:=aJM hrf;have hrf2:=aJL (m:=m) hrf oM oM;have hfm:((fr++ [k]).map sv).take (m*1)=fr.map sv:=by
  have:(fr.map sv).length=m:=by rw [zBc,hm]
  rw [zAz,zBl,<-this,List.take_left]
 rw [hfm] at hrf2;have ck:w.cell? ⟨gf,m,none⟩=some (.int .i64 (k:Int)):=by refine (World.ownsRow.cellAt hrf m oM).trans ?_;rw [zAz,zAo (by simp [hm]),zBc,hm,Nat.sub_self];rfl
 obtain ⟨tb,htb⟩:∃tb,tk[k]?=some tb:=⟨_,zAa oM⟩;have ct':w.cell? ⟨gt,k,none⟩=some (.bool tb):=by refine (World.ownsRow.cellAt hrt k oM).trans ?_;rw [zAf,htb];rfl
 have hta:ga≠gt:=fun e=>aY hrt hb dC (by rw [e];rfl);have hfa:ga≠gf:=fun e=>aY hrf hb dC (by rw [e];rfl);have hftk:∃cur,Bk w gt 4 cur:=by
  rcases hrt.2 with ⟨h1,_⟩|⟨g',cap,cur,h1,_,h3,_⟩
  · cases h1
  injection h1 with h1 _ _;injection h1 with h1;injection h1 with h1 _;subst h1;exact ⟨cur,h3⟩
 obtain ⟨cur,hbt⟩:=hftk;have hgl:=hb.lt;obtain ⟨Hb,Hrt,Hrf2,Hot,Hof,Hbt,HN,Hm⟩:=hqq8 hb hrt hrf2 hot hof hbt hN hm;clear hb hrt hrf hrf2 hot hof hfm hm1 htb hN hm hbt;go_enter Tryz.func150,Tryz.ntmps150;go_wp2;refine wp_region_any kR ?_;refine aO [10,11,12,13,14,15,16,9] (Grow) (Vs [is ga,is (.int .i64 ((N -(m+1):Nat):Int)),is ga,is ga,is (.pointer (some ⟨ga,2,none⟩)),is (.int .i64 268435456),is (.bool false),is (.bool false)]) _ _ rfl kR bR (fun _ _=>Grow.trans) (cL tA1) ?_ ?_
 · refine aM ?_;refine pH 0 (.pointer (some ⟨ga,0,none⟩)) ?_;refine sC (fun _ w5 hS _ _ _ hval _ _ _ hK=>?_) ?_
   · have e10:_=_:=hval 0 10 kR rfl;replace hS:(Grow) w w5:=⟨hS.os,hS.tape,hS.output,hS.size,hS.block⟩;go_simp;refine (pT ga (some ⟨gt,0,none⟩) c (some ⟨gf,0,none⟩) cf N (m+1) w5 (Hb.out.below hS Hb.out.lt) oM oM).mono ?_;rintro e w8 ⟨rfl,hb8⟩;exact hK _ _ hb8 rfl
   refine pH 0 (.pointer (some ⟨ga,0,none⟩)) ?_;refine pV 2 12 ?_;refine pV 3 13 ?_;refine sC (fun _ w5 hS _ _ _ hval _ _ _ hK=>?_) ?_
   · have e14:_=_:=hval 4 14 kR rfl;replace hS:(Grow) w w5:=⟨hS.os,hS.tape,hS.output,hS.size,hS.block⟩;have c15:w5.cell? ⟨ga,2,none⟩=some (.int .i64 268435456):=((Hb.out.below hS Hb.out.lt).cell 2).trans rfl;go_simp;exact hK _ _ bR rfl
   refine sC (fun _ _ _ _ _ _ hval _ _ _ hK=>?_) ?_
   · have e11:_=_:=hval 1 11 kR rfl;have e15:_=_:=hval 5 15 kR rfl;have hne:(((N -(m+1):Nat):Int)==268435456)=false:=(by rw [zCb];omega);go_simp;exact hK _ _ bR (by first | rfl | simp [is] |(simp [is];omega))
   refine pV 6 16 ?_;exact aC
 · intro ev w6 hS hval;replace hS:(Grow) w w6:=⟨hS.os,hS.tape,hS.output,hS.size,hS.block⟩;have e9:ev (.tmp 9)=.bool false:=hval 7 9 rfl;simp only [aI,zq1,zq2,Act.put,zq3,zq4,zq5];rw [e9];clear hval;have hbW:=Hb.out.below hS Hb.out.lt;have hbtW:=Hbt.out.below hS Hbt.out.lt;have c0:w6.cell? ⟨ga,0,none⟩=some (.slice (some ⟨gt,0,none⟩) N c):=(hbW.cell 0).trans rfl;have c1:w6.cell? ⟨ga,1,none⟩=some (.slice (some ⟨gf,0,none⟩) (m+1) cf):=(hbW.cell 1).trans rfl;have f1:=hbW.frozen 1;have ft:=hbtW.frozen k;have ck6:w6.cell? ⟨gf,m,none⟩=some (.int .i64 (k:Int)):=(hS.cell (p:=⟨gf,m,none⟩) hgf).trans ck;have ct6:w6.cell? ⟨gt,k,none⟩=some (.bool tb):=(hS.cell (p:=⟨gt,k,none⟩) hgt).trans ct';have hga6:=hbW.lt;have hgt6:=hbtW.lt;have hgf6:gf < w6.heap.size:=zAl hgf hS.size;have hrt6:=aP Hrt.out hS;have hrf6:=aP Hrf2.out hS;obtain ⟨HS,HbW,HbtW,Hrt6,Hrf6⟩:=hqq5 hS hbW hbtW hrt6 hrf6;have e1:IntKind.i64.wrap (((m+1:Nat):Int) - 1)=(m:Int):=(by rw [IntKind.wrap_i64];omega);have i1:(m:Int) < ((m+1:Nat):Int):=oM;have i2:(k:Int) < (N:Int):=oM;have i3:(m:Int)<=(cf:Int):=oM;have i4:((m+1:Nat):Int) > 0:=oM;clear hS hbW hbtW hrt6 hrf6 ck ct';go_wp2_with fail;go_ret2;have hk1:Keep F w w6:=Keep.of_below HS.out;have hb7:=HbW.out.set 1 (.slice (some ⟨gf,0,none⟩) m cf);have hb8:=hb7.far (p:=⟨gt,k,none⟩) hta (.bool true);have hrt7:=aA (w':=w6.setCell ⟨ga,1,none⟩ (.slice (some ⟨gf,0,none⟩) m cf)) Hrt6.out fun b cs _ hb'=>hb'.far (Bk.ne hb' HbW.out dC) _;have hrt8:=(World.ownsRow.stored hrt7 k (.bool true)).1;have hrf7:=aA (w':=w6.setCell ⟨ga,1,none⟩ (.slice (some ⟨gf,0,none⟩) m cf)) Hrf6.out fun b cs _ hb'=>hb'.far (Bk.ne hb' HbW.out dC) _;have hbt7:=HbtW.out.far (p:=⟨ga,1,none⟩) (fun e=>hta e.symm) (.slice (some ⟨gf,0,none⟩) m cf);have hrf8:=aA (w':=(w6.setCell ⟨ga,1,none⟩ (.slice (some ⟨gf,0,none⟩) m cf)).setCell ⟨gt,k,none⟩ (.bool true)) hrf7 fun b cs _ hb'=>hb'.far (Bk.ne hb' hbt7 dC) _;have hFt:F gt:=OwnF.at Hot.out;have hFf:F gf:=OwnF.at Hof.out;rw [show ((tk.map Value.bool).set k (.bool true))=(tk.set k true).map Value.bool by rw [List.map_set]] at hrt8;refine ⟨rfl,⟨hFa,some ⟨gt,0,none⟩,c,some ⟨gf,0,none⟩,cf,?_,?_,?_,?_,?_⟩,?_⟩;rw [zAt,HN.out,Hm.out];exact hb8;rw [zAt,HN.out];exact hrt8;rw [Hm.out];exact hrf8;rw [zAt];exact OwnF.slice hFt;exact OwnF.slice hFf;exact Keep.setCell (F:=F) (Keep.setCell (F:=F) hk1 (p:=⟨ga,1,none⟩) (.inl hFa) _) (p:=⟨gt,k,none⟩) (.inl hFt) _
theorem aDN (F:Nat->Prop) (ga k:Nat) (tk:List Bool) (fr:List Nat) (w:World) (h:ArenaE w F ga tk fr) (hk:tk[k]?=some true):
 Calls Tryz.prog 244 #[ga,(k:Int)] w fun e w'=>e=.returned (.bool true)/\w=w':=by
 obtain ⟨hFa,A,c,Af,cf,hb,hrt,hrf,hot,hof⟩:=h;obtain ⟨hkl,_⟩:=zAc.1 hk;obtain ⟨N,hN⟩:=eqx tk.length;rw [hN] at hb hrt hkl;obtain ⟨gt,ct,hA,_,hgt⟩:=World.ownsRow.form hrt oM;injection hA with hA _ hcc;subst hA hcc;have c0:w.cell? ⟨ga,0,none⟩=some (.slice (some ⟨gt,0,none⟩) N c):=(hb.cell 0).trans rfl;have ck:w.cell? ⟨gt,k,none⟩=some (.bool true):=by refine (World.ownsRow.cellAt hrt k oM).trans ?_;rw [zAf,hk];rfl
 have hgl:=hb.lt;have hkI:(k:Int) < (N:Int):=oM;have hk0:decide ((k:Int)>=0)=true:=by simp
 clear hb hrt hrf hot hof hN hk;go_enter Tryz.func244,Tryz.ntmps244;go_wp2_with fail;go_ret;exact ⟨rfl,rfl⟩
theorem aDF (F:Nat->Prop) (ga gs k:Nat) (tk:List Bool) (fr:List Nat) (w:World) (h:ArenaE w F ga tk fr) (hk:tk[k]?=some true) (hs:Bk w gs 3 #[(k:Int)]) (hf:fr.length<=1000000):
 Calls Tryz.prog 205 #[ga,.slice (some ⟨gs,0,none⟩) 1 1] w fun e w'=>e=.returned (.int .i64 0)/\ArenaE w' (Gw F w.heap.size) ga (tk.set k false) (fr++ [k])/\Keep F w w':=by
 have his:=aDN F ga k tk fr w h hk;obtain ⟨hFa,A,c,Af,cf,hb,hrt,hrf,hot,hof⟩:=h;obtain ⟨hkl,_⟩:=zAc.1 hk;obtain ⟨i0,hi0,hz0,hz1,hz2⟩:=info_parts gC;obtain ⟨N,hN⟩:=eqx tk.length;obtain ⟨m,hm⟩:=eqx fr.length;rw [hm] at hb hrf hof hf;rw [hN] at hb hrt hot hkl;obtain ⟨gt,ct,hA,_,hgt⟩:=World.ownsRow.form hrt oM;injection hA with hA _ hcc;subst hA hcc;have ck:w.cell? ⟨gt,k,none⟩=some (.bool true):=by refine (World.ownsRow.cellAt hrt k oM).trans ?_;rw [zAf,hk];rfl
 have hta:ga≠gt:=fun e=>aY hrt hb dC (by rw [e];rfl);have hftk:∃cur,Bk w gt 4 cur:=by
  rcases hrt.2 with ⟨h1,_⟩|⟨g',cap,cur,h1,_,h3,_⟩
  · cases h1
  injection h1 with h1 _ _;injection h1 with h1;injection h1 with h1 _;subst h1;exact ⟨cur,h3⟩
 obtain ⟨cur,hbt⟩:=hftk;have ft:=hbt.frozen k;have c0:w.cell? ⟨ga,0,none⟩=some (.slice (some ⟨gt,0,none⟩) N c):=(hb.cell 0).trans rfl;have cs0:w.cell? ⟨gs,0,none⟩=some (.int .i64 (k:Int)):=(hs.cell 0).trans rfl;have hgl:=hb.lt;have hgsl:=hs.lt;have hkI:(k:Int) < (N:Int):=oM;have hst:gs≠gt:=Bk.ne hs hbt dC;obtain ⟨W,hW⟩:=eqx (w.setCell ⟨gt,k,none⟩ (.bool false));have hbW:Bk W ga 221 #[.slice (some ⟨gt,0,none⟩) N c,.slice Af m cf,.int .i64 268435456]:=by rw [<-hW];exact hb.far (p:=⟨gt,k,none⟩) hta _
 have hsW:Bk W gs 3 #[(k:Int)]:=by rw [<-hW];exact hs.far (p:=⟨gt,k,none⟩) hst _
 have hrtW:W.ownsRow 0 4 1 (.slice (some ⟨gt,0,none⟩) N c) N ((tk.set k false).map Value.bool):=by rw [<-hW,List.map_set];exact (World.ownsRow.stored hrt k (.bool false)).1
 have hrfW:W.ownsRow 0 3 1 (.slice Af m cf) m (fr.map sv):=by rw [<-hW];exact aA hrf fun b cs _ hb'=>hb'.far (p:=⟨gt,k,none⟩) (Bk.ne hb' hbt dC) _
 have hFt:F gt:=OwnF.at hot;have hkW:Keep F w W:=by rw [<-hW];exact Keep.setCell (F:=F) (Keep.refl _ _) (p:=⟨gt,k,none⟩) (.inl hFt) _
 have d0:W.cell? ⟨ga,1,none⟩=some (.slice Af m cf):=(hbW.cell 1).trans rfl;have hgW:=hbW.lt;have hrW:Rd W W.heap.size 1 (some ⟨gs,0,none⟩) 1 [.int .i64 (k:Int)]:=⟨rfl,fun _=>⟨gs,0,rfl,hsW.lt,fun j u hu=>by
  rw [zBi,hsW.cell];rcases j with _ | j;exact hu
  · simp at hu⟩⟩
 obtain ⟨HbW,HrtW,HrfW,HkW,HrW,HW,Hof,Hm,HN⟩:=hqq9 hbW hrtW hrfW hkW hrW hW hof hm hN;have Hne:=lhd (aY hrfW hbW dC);clear hb hrt hrf hot hof hN hm hbt hs hk hbW hsW hrtW hrfW hkW hW hrW;go_enter Tryz.func205,Tryz.ntmps205;go_wp2_with fail;refine wp_loop_rounds 2 ?_;rw [rounds_succ];go_wp2_with fail;refine his.mono ?_;rintro e w1 ⟨rfl,rfl⟩;clear his;go_wp2_with fail;rw [HW.out];clear c0 cs0 ck ft;rw [rounds_succ];go_wp2_with (at_builtin;refine aX _ rfl (.tmp 48) (.tmp 49) _ rfl 0 3 i0 (.int .i64 0) 1 8 Tryz.underlying22 hi0 hz0 hz1 hz2 rfl dC (.slice Af m cf) m _ rfl HrfW.out _ _ _ _ _ rfl HrW.out (by simp [Value.oneCell']) (by unfold maxLen;omega) oM (zAp _) ?_;intro v5 w5 hown5 hg5 hat5;have hbk5:=HbW.out.grown hg5 Hne.out;have f5:=hbk5.frozen 1;have d5:=hbk5.cell 1;obtain ⟨Hown5,Hg5,Hat5,Hbk5⟩:=hqq4 hown5 hg5 hat5 hbk5;obtain ⟨A9,c9,rfl,hm9⟩:=aS hown5;clear hown5 hg5 hat5 hbk5 hm9);go_ret;have hk5:Keep F w w5:=HkW.out.grown Hg5.out (fun j hj=>.inl (Hof.out j hj));have hb6:=Hbk5.out.set 1 (.slice A9 (m+1) c9)
 have hrt5:=World.ownsRow.kept HrtW.out Hg5.out (by
  rcases hh:(Value.slice Af m cf).ownBlock with _ | x
  · right;simp [Value.ownBlock]
  · right;intro e;have e':gt=x:=(by simpa [Value.ownBlock] using e);subst e';rcases HrfW.out.2 with ⟨h1,_⟩|⟨g',cap,cur',h1,_,h3,_⟩
    · rw [h1] at hh;simp [Value.ownBlock] at hh
    · rw [h1] at hh;have e2:g'=gt:=(by simpa [Value.ownBlock] using hh);subst e2;exact aY HrtW.out (t:=3) h3 dC rfl)
 have hrt6:=aA (w':=w5.setCell ⟨ga,1,none⟩ (.slice A9 (m+1) c9)) hrt5 fun b cs _ hb'=>hb'.far (Bk.ne hb' Hbk5.out dC) _;have hrf6:=aA (w':=w5.setCell ⟨ga,1,none⟩ (.slice A9 (m+1) c9)) Hown5.out fun b cs _ hb'=>hb'.far (Bk.ne hb' Hbk5.out dC) _;have hsz:=HkW.out.size;refine ⟨rfl,⟨.inl hFa,some ⟨gt,0,none⟩,c,A9,c9,?_,?_,?_,?_,?_⟩,?_⟩;rw [zAt,HN.out,zAi,Hm.out];exact hb6;rw [zAt,HN.out];exact hrt6;rw [zAi,Hm.out,zAz];exact hrf6;exact OwnF.slice (.inl hFt);intro b hb;rw [zAi,Hm.out] at hb;rcases Hat5.out with h | h;exact .inl (Hof.out b (h.symm.trans hb));have e3:=h.symm.trans hb;injection e3 with e3;exact .inr oM;exact Keep.setCell (F:=F) hk5 (p:=⟨ga,1,none⟩) (.inl hFa) _
theorem aDT (L L':List Nat) (s:Nat) (hs:s < 257) (h:L.Perm (s::L')):((tcells L).setIfInBounds s (.int .i64 (((L.count s - 1:Nat)):Int))).setIfInBounds 257 (.int .i64 ((L.length - 1:Nat):Int))=tcells L':=by
 have hc:=h.count_eq;have hl:=h.length_eq;rw [zCg] at hl;apply pU
 · simp [eM]
 · intro i hi;rw [zCe oM];by_cases e:s=i
   · subst e;rw [Array.getElem?_setIfInBounds_self_of_lt (by rw [eM];omega),hc s];simp
   · rw [zCe e,dR L hi,hc i,List.count_cons_of_ne e]
 rw [Array.getElem?_setIfInBounds_self_of_lt (by simp [eM]),hl];rfl
theorem aBL (gt:Nat) (L L':List Nat) (s:Nat) (w:World) (hP:L.Perm (s::L')) (h:Bk w gt 199 (tcells L)) (hs:s < 257) (hl:L.length<=1000):
 Calls Tryz.prog 117 #[gt,(s:Int),.int .i64 (-1)] w fun e w'=>e=.returned (.int .i64 0)/\Bk w' gt 199 (tcells L')/\Keep (fun b=>b=gt) w w':=by
 have H:=lhd h;clear h;have h0:¬((s:Int) < 0):=oM;have h1:((s:Int) < 257):=oM;obtain ⟨q,hq⟩:=eqx (L.count s);obtain ⟨n,hn⟩:=eqx L.length;have hql:q<=1000:=by rw [<-hq];exact zAk zBv hl
 rw [hn] at hl;have hq1:1<=q:=by rw [<-hq,hP.count_eq];simp
 have hn1:1<=n:=by rw [<-hn,hP.length_eq];simp
 have hadd:=aDT L L' s hs hP;rw [hq,hn] at hadd;obtain ⟨HA,HQ,HN⟩:=hqq3 hadd hq hn;clear hadd hq hn;go_enter Tryz.func117,Tryz.ntmps117;go_wp2_with fail;refine (fJ s _ hs).mono ?_;rintro e w1 ⟨rfl,hb⟩;have hbk:=H.out.below hb H.out.lt;have c0:w1.cell? ⟨gt,s,none⟩=some (.int .i64 (q:Int)):=by rw [<-HQ.out];exact (hbk.cell s).trans (dR L hs)
 have c1:w1.cell? ⟨gt,257,none⟩=some (.int .i64 (n:Int)):=by rw [<-HN.out];exact (hbk.cell 257).trans (iJ L)
 have n1:¬((-1:Int) < -(q:Int)):=oM;have n2:¬((-1:Int) > 2147483648 -(n:Int)):=oM;obtain ⟨HB,Hbk⟩:=hqq2 hb hbk;clear hb hbk H;go_wp2_with fail;refine wp_region_any kR ?_;refine bH [33,34,35,36,37,38,39,40,41,42,43] (fun b=>b=gt) 11 [5,11] (fun w2=>Bk w2 gt 199 (tcells L)) (fun _ w2=>Bk w2 gt 199 ((tcells L).setIfInBounds s (.int .i64 ((q - 1:Nat):Int)))) [is gt,is (s:Int),is gt,is gt,is (.pointer (some ⟨gt,s,none⟩)),is (q:Int),is (.int .i64 (-1)),is (.int .i64 ((q - 1:Nat):Int)),is gt,is gt,is (.pointer (some ⟨gt,s,none⟩)),cR] _ _ rfl kR kR (Hbk.out) (fun w2 w3 h _ hg=>Bk.below h hg h.lt) (fun _ _ _ h k=>Bk.below h k h.lt) tA0 ?_ ?_
 · refine aM ?_;refine pH3 0 (.pointer (some ⟨gt,0,none⟩)) ?_;refine pH3 1 (.int .i64 (s:Int)) ?_;refine pV3 0 33 ?_;refine pV3 2 35 ?_;refine pW3 3 36 1 34 ?_;refine sC3 (fun _ w5 _ hU _ _ _ hval _ _ _ hK=>?_) ?_
   · have hpre:=hU rfl;have e37:_=_:=hval 4 37 kR rfl;have c38:w5.cell? ⟨gt,s,none⟩=some (.int .i64 (q:Int)):=(by rw [<-HQ.out];exact (hpre.cell s).trans (dR L hs));go_simp;exact kq hK rfl
   refine pH3 2 (.int .i64 (-1)) ?_;refine sC3 (fun _ _ _ _ _ _ _ hval _ _ _ hK=>?_) ?_
   · have e38:_=_:=hval 5 38 kR rfl;have e39:_=_:=hval 6 39 kR rfl;go_simp;exact hK _ _ (aJ bR) (dD (by rw [IntKind.wrap_i64];omega))
   refine pV3 0 33 ?_;refine pV3 8 41 ?_;refine pW3 9 42 1 34 ?_;refine sC3 (fun _ w5 _ hU _ _ _ hval _ _ _ hK=>?_) ?_
   · have hpre:=hU rfl;have e43:_=_:=hval 10 43 kR rfl;have e40:_=_:=hval 7 40 kR rfl;have c43:w5.cell? ⟨gt,s,none⟩=some (.int .i64 (q:Int)):=(by rw [<-HQ.out];exact (hpre.cell s).trans (dR L hs));have f43:=hpre.frozen s;go_simp;exact hK (.bool true) _ (aW (Keep.setCell (F:=fun b=>b=gt) (Keep.refl _ _) (p:=⟨gt,s,none⟩) (.inl rfl) _)) (hpre.set s _)
   exact aC
 · intro ev w6 hS hval hall;replace hS:Keep (fun b=>b=gt) w1 w6:=kD hS;obtain ⟨vJ,pJ⟩:∃vJ0,(fun _ w2=>Bk w2 gt 199 ((tcells L).setIfInBounds s (.int .i64 ((q - 1:Nat):Int)))) vJ0 w6:=hall 11 dC;simp only [aI,zq1,zq2,Act.put,zq3,zq4,zq5];clear hval hall;have c257:w6.cell? ⟨gt,257,none⟩=some (.int .i64 (n:Int)):=(by refine (pJ.cell 257).trans ?_;rw [zCe oM,<-HN.out];exact iJ L);have f257:=pJ.frozen 257;have en:(n:Int)+-1=((n - 1:Nat):Int):=oM;obtain ⟨PJ,HS⟩:=hqq2 pJ hS;have hglt:=pJ.lt;clear pJ hS;go_wp2_with fail;go_ret;refine ⟨rfl,?_,?_⟩;rw [<-HA.out];exact PJ.out.set 257 _;exact ((Keep.of_below HB.out).trans HS.out).setCell (.inl rfl) _
theorem aBK (gt:Nat) (bs:List Bool) (w:World) (h:TreeAt w gt bs):
 Calls Tryz.prog 241 #[gt] w fun e w'=>e=.returned (.int .i64 ((bs.count true:Nat):Int))/\Below w.heap.size w w':=by
 obtain ⟨ga,v,⟨rfl,vl,h2⟩|⟨h1,h2,gl,cl,gb,h3⟩⟩:=h
 · have c2:w.cell? ⟨gt,2,none⟩=some (.int .i64 (-1)):=(h2.cell 2).trans rfl;clear h2;go_enter Tryz.func241,Tryz.ntmps241;go_wp2;go_ret;exact ⟨rfl,Below.refl _ _⟩
 · obtain ⟨c0,c1,c2,c3,d0,d1,d2,d3,d4,d5,d6,d7⟩:=h3.cells;clear h3;go_enter Tryz.func241,Tryz.ntmps241;go_wp2;go_quiet (fail);go_wp2;go_ret;exact ⟨rfl,⟨rfl,rfl,rfl,zAs _,fun _ _=>rfl⟩⟩
theorem TabW.visk {g:Nat} {w w':World} (h:TabW w) (k:VisK (fun b=>b=g) w w') (hg:1 < g) (hw:1 < w.heap.size):TabW w':=
 fun j hj=>(k.2.cell (p:=⟨1,j,none⟩) hw (by show ¬(1=g);omega)).trans (h j hj)
theorem aIV {l:List Bool} {b:Bool} {p:Nat} (hp:l[p]?=some b):(l.take p).count b < l.count b:=by
 have hpl:=(zAc.1 hp).1;have e:l=l.take (p+1)++l.drop (p+1):=(zAu _ _).symm;have h1:l.count b=(l.take (p+1)).count b+(l.drop (p+1)).count b:=by rw [<-zCc,zAu]
 have h2:(l.take (p+1)).count b=(l.take p).count b+1:=by rw [zAv,hp,zCc];simp
 omega
theorem yM (gt:Nat) (bs:List Bool) (p j:Nat) (b:Bool) (w:World) (h:TreeAt w gt bs) (hp:bs[p]?=some b) (hj:(bs.take p).count b=j) (hT:TabW w) (hg0:1 < gt):
 Calls Tryz.prog 202 #[gt,(j:Int),.bool b] w fun e w'=>e=.returned (.int .i64 (p:Int))/\VisK (fun b=>b=gt) w w':=by
 have hbl:bs.length<=128:=by
  obtain ⟨ga,v,⟨rfl,vl,h2⟩|⟨h1,h2,h3⟩⟩:=h
  · simp
  exact h2
 have hpl:=(zAc.1 hp).1;have hclt:=aIV hp;rw [hj] at hclt;have hcb:=qL bs;have hv0:∃cs,Bk w gt 202 cs/\3 < cs.size:=by obtain ⟨ga,v,⟨rfl,vl,h2⟩|⟨h1,h2,gl,cl,gb,h3⟩⟩:=h;exact ⟨_,h2,by simp⟩;exact ⟨_,h3.tree,by simp⟩
 obtain ⟨cs,hcs,hc3⟩:=hv0;have hw0:1 < w.heap.size:=hT.pos;have hv1:=VisK.set_tree hcs 0;have ht1:=h.vis hv1.1;have hgl:=hcs.lt;have c3:w.cell? ⟨gt,3,none⟩=some cs[3]:=by rw [hcs.cell 3];simp [hc3]
 have f3:=hcs.frozen 3;obtain ⟨N,hN⟩:=eqx bs.length;obtain ⟨o,ho⟩:=eqx (bs.count true);rw [hN,ho] at hcb;have hlike:j < (if b then o else N - o):=by cases b;simp;omega;simp;omega
 have hN128:N<=128:=oM;have hoN:o<=N:=oM;have hj128:j<=128:=by rw [<-hj];exact zAk zBv (by rw [zAj];omega)
 have hp128:p<=128:=oM;obtain ⟨r,hr⟩:=eqx ((if b then o else N - o));rw [hr] at hlike;obtain ⟨HV,Hh,Hbl,Ht,HN,Hp,Hj,Ho,Hr⟩:=hqq9 hv1 h hbl ht1 hN hp hj ho hr;obtain ⟨HT,Hlike⟩:=hqq2 hT hlike;clear h hbl hv1 ht1 hcs hN hpl hclt hcb hp hj ho hr hT;go_enter Tryz.func202,Tryz.ntmps202;go_wp2_with fail;clear c3 f3;refine (eR gt bs _ Ht.out).mono ?_;rintro e w2 ⟨rfl,hb2⟩;rw [HN.out];have hv2:=HV.out.below hb2;have ht2:=Hh.out.vis hv2.1;obtain ⟨HV2,Ht2⟩:=hqq2 hv2 ht2;clear hv2 ht2 HV Ht hb2;go_wp2_with fail;refine (aBK gt bs _ Ht2.out).mono ?_;rintro e w3 ⟨rfl,hb3⟩;rw [Ho.out];have hv3:=HV2.out.below hb3;have ht3:=Hh.out.vis hv3.1;obtain ⟨HV3,Ht3⟩:=hqq2 hv3 ht3;clear hv3 ht3 HV2 Ht2 hb3;go_wp2_with fail;refine (xL N o b _ hN128 hoN).mono ?_;rintro e w4 ⟨rfl,hb4⟩;rw [Hr.out];have hv4:=HV3.out.below hb4;have ht4:=Hh.out.vis hv4.1;have hn1:¬r<=j:=oM;have hn2:decide (r<=j)=false:=zBy hn1;obtain ⟨ga,v,⟨hbe,_,_⟩|⟨hbe,hb2,gl,cl,gb,hl⟩⟩:=ht4
 · have h1:=Hp.out;rw [hbe] at h1;simp at h1
 obtain ⟨c0,c1,c2,c3,d0,d1,d2,d3,d4,d5,d6,d7⟩:=hl.cells;have hl2:=hl.row.lt;have hgl2:=hl.tree.lt;have hgt_gl:gt≠gl:=hl.row.bk_ne hl.tree dC;have f3:=hl.tree.frozen 3;obtain ⟨Hl,H2,HV4⟩:=hqq3 hl hb2 hv4;clear hl hb2 hbe hv4 hb4 HV3 Ht3;go_wp2_with fail;go_loopw [1,7,8] (fun x y z wr=>x=.int .i64 (j:Int)/\y=.int .i64 0/\z=.int .i64 0/\wr=w4) (fun _ _ _ _=>0)
 case atStart=>exact ⟨rfl,rfl,rfl,rfl⟩
 case round=>
  obtain ⟨rfl,rfl,rfl,rfl⟩:=hrel;go_wp2_with fail;refine (xL 0 0 b _ oM nL).mono ?_;rintro e w5 ⟨rfl,hb5⟩;have e0:(if b=true then 0 else 0 - 0:Nat)=0:=by cases b <;> rfl
  rw [e0];have hgb:=Bk.ne Hl.out.blk Hl.out.tree dC;have hv5:=(VisK.set_tree Hl.out.tree (wrap64 (v+1))).alloc (.cells #[.int .i64 (-1),.int .i64 (-1),.int .i64 0,(bs.length:Int),.int .i64 ((bs.count true:Nat):Int),.int .i64 0,.int .i64 0,gb] 205);have hw5:=hv5.below hb5;have hblk:=(Hl.out.blk.far (p:=⟨gt,3,none⟩) hgb (.int .i64 (wrap64 (v+1)))).alloc (.cells #[.int .i64 (-1),.int .i64 (-1),.int .i64 0,(bs.length:Int),.int .i64 ((bs.count true:Nat):Int),.int .i64 0,.int .i64 0,gb] 205);have hblk5:=hblk.below hb5 hblk.lt;have hx7:=hb5.cell (p:=⟨wr.heap.size,7,none⟩) (by simp [World.setCell]);have hTw:=((HV4.out.trans hv5).below hb5);obtain ⟨HT5,HV5,Hblk5⟩:=hqq3 (HT.out.visk hTw hg0 hw0) hTw hblk5;clear hw5 hblk hblk5 hv5 hTw hb5;go_wp2_with fail;refine (vF gb bs b p j _ Hblk5.out H2.out Hp.out Hj.out HT5.out).mono ?_;rintro e w6 ⟨rfl,hb6⟩;have hv6:=HV5.out.below hb6;have e5:IntKind.i64.wrap (p:Int)=(p:Int):=by rw [IntKind.wrap_i64];omega
  go_wp2_with fail;go_ret;exact ⟨fL oM,hv6⟩
@[irreducible] def cntL (L:List Nat):List Value:=(List.range 257).map fun s=>.int .i64 ((L.count s:Nat):Int)
theorem aBz (L:List Nat) {s:Nat} (h:s < 257):(cntL L)[s]?=some (.int .i64 ((L.count s:Nat):Int)):=by
 unfold cntL;rw [zAf,zCk h];rfl
theorem aCY (L:List Nat):(cntL L).length=257:=by unfold cntL;simp
theorem aIC {w:World} {gt:Nat} {L:List Nat} (h:Bk w gt 199 (tcells L)):(loadCells ⟨gt,0,none⟩ 257).run Tryz.prog w=.ok (cntL L).toArray w:=by
 have:=run_loadCells_list (P:=Tryz.prog) w ⟨gt,0,none⟩ (cntL L) (fun j v hv=>by
  have hadd:(⟨gt,0,none⟩:Addr).add j=⟨gt,j,none⟩:=by unfold Addr.add;split <;> simp_all
  have hj:j < 257:=by rw [<-aCY L];exact (zAc.1 hv).1
  rw [hadd,h.cell j,dR L hj,<-aBz L hj,hv])
 rw [aCY] at this;exact this
theorem zL {o:Oper} {a:Act} {w:World} {K:Act->World->Prop} {Q:Exit->Act->World->Prop} (ty:TypeId) (x:Operand) (ho:o.op=.load ty x)
 (ad:Addr) (hx:a.eval x=.pointer (some ad)) (cs:Array Value) (n:Nat) (d:TypeDesc)
 (hu:Tryz.prog.underlying ty=some d) (hd:(match d with | .struct _ | .array _ _=>true | _=>false)=true) (hi:(Tryz.prog.info? ty).map (·.size)=some n)
 (hl:(loadCells ad n).run Tryz.prog w=.ok cs w) (h:K (a.put o.dst (.agg cs)) w):o.wp Tryz.prog a w K Q:=by
 have hv:(loadVar ty ad).run Tryz.prog w=.ok (.agg cs) w:=by
  cases hq:Tryz.prog.info? ty with
  | none=>simp [hq] at hi
  | some i=>
    have hs:i.size=n:=(by simpa [hq] using hi);have hagg:(isAgg ty).run Tryz.prog w=.ok true w:=(by unfold isAgg;rw [Sem.run_bind,run_underlying hu w];cases d <;> simp_all);simp [loadVar,Sem.run_bind,hagg,sizeOf,typeInfo,hq,hs,hl]
 unfold Oper.wp execOp;simp only [ho,hx,Instr.loadAt,Instr.sureAddr,Sem.run_bind,Sem.run_pure,Result.andThen_ok,hv];exact h
theorem aKR (L:List Nat) (x:Nat) (h:x < 257) (w:World):(Instr.index 148 (.agg (cntL L).toArray) (.int .i64 (x:Int))).run Tryz.prog w=.ok (.int .i64 ((L.count x:Nat):Int)) w:=by
 have hc:(cntL L).toArray[x]?=some (.int .i64 ((L.count x:Nat):Int)):=by rw [zCw];exact aBz L h
 have h0:(0:Int)<=(x:Int)/\(x:Int) < ((257:Nat):Int):=oM;have hu:=Tryz.underlying148;have hu2:=Tryz.underlying3;have hc2:=aBz L h;have ha:(isAgg 3).run Tryz.prog w=.ok false w:=by unfold isAgg;rw [Sem.run_bind,run_underlying hu2 w];rfl
 simp [Instr.index,asIntOf,Sem.run_bind,run_underlying hu w,h0,Tryz.sizeOf3,h,part,ha,hc2]
theorem yQ (gt:Nat) (L:List Nat) (k s:Nat) (w:World) (h:Bk w gt 199 (tcells L)) (hs:s < 257) (h1:L.countP (fun x=>decide (x < s))<=k) (h2:k < L.countP (fun x=>decide (x < s))+L.count s) (hl:L.length<=1000):
 Calls Tryz.prog 180 #[gt,(k:Int)] w fun e w'=>e=.returned (.int .i64 (s:Int))/\Below w.heap.size w w':=by
 have hld:=aIC h;have H:=lhd h;clear h;have g0:decide ((k:Int) < 0)=false:=by simp
 go_enter Tryz.func180,Tryz.ntmps180;go_wp2_with fail;refine zL 148 (.tmp 15) rfl ⟨gt,0,none⟩ rfl (cntL L).toArray 257 _ Tryz.underlying148 rfl kR hld ?_;have hcs:=fun x=>uN L x;have hcx:∀x,x < s->L.countP (fun y=>decide (y < x))+L.count x<=L.countP (fun y=>decide (y < s)):=fun x hx=>by rw [<-hcs x];exact List.countP_mono_left fun y _ h=>by simp at h⊢;omega
 obtain ⟨Hcs,Hcx,H1,H2⟩:=hqq4 hcs hcx h1 h2;clear hcs hcx h1 h2 hld;have hk:k<=1000:=by
  have h2:=H2.out;have h3:L.countP (fun x=>decide (x < s))+L.count s<=L.length:=by rw [<-Hcs.out s];exact zBh
  omega
 simp only [Act.put,List.setIfInBounds_toArray,List.set_cons_zero,List.set_cons_succ];go_wp2_with fail;go_loopw [1,17] (fun v i wr=>∃x:Nat,x<=s/\i=.int .i64 (x:Int)/\v=.int .i64 ((k - L.countP (fun y=>decide (y < x)):Nat):Int)/\wr=w) (fun _ i _=>257 -(intOf i).toNat)
 case atStart=>exact ⟨0,by omega,rfl,by simp,rfl⟩
 case round=>
  obtain ⟨x,hx,rfl,rfl,rfl⟩:=hrel;have hix:=aKR L x oM;have h1:=H1.out;have h2:=H2.out;have h3:=Hcs.out x;have h4:=Hcx.out x;obtain ⟨u,hu⟩:∃u,L.countP (fun y=>decide (y < s))=u:=⟨_,rfl⟩;obtain ⟨v,hv⟩:∃u,L.countP (fun y=>decide (y < x))=u:=⟨_,rfl⟩;obtain ⟨v',hv'⟩:∃u,L.countP (fun y=>decide (y < x+1))=u:=⟨_,rfl⟩;obtain ⟨c,hc⟩:∃u,L.count x=u:=⟨_,rfl⟩;rw [hu] at h1 h2 h4;rw [hv] at h3 h4;rw [hv',hc] at h3;rw [hc] at h4 hix;by_cases hxs:x < s
  · have h5:=h4 hxs;have e1:¬k - v < c:=oM;have e2:decide (k - v < c)=false:=zBy e1;have e3:IntKind.i64.wrap (((k - v:Nat):Int) -(c:Int))=((k - v':Nat):Int):=(by rw [IntKind.wrap_i64];omega);have e4:x < 257:=oM;have e5:(x:Int) < 257:=oM;rw [hv];obtain ⟨d,hd⟩:=eqx (k - v);obtain ⟨d',hd'⟩:∃d,k - v'=d:=⟨_,rfl⟩;rw [hd] at e1 e2 e3⊢;rw [hd'] at e3;obtain ⟨Hd',Hv'⟩:=hqq2 hd' hv';clear h1 h2 h3 h4 h5 hu hv hv' hc hd hd';go_wp2_with fail;go_roundw
    case rel=>exact ⟨x+1,by omega,by go_num,by rw [Hv'.out,Hd'.out],by first | rfl | trivial⟩
    case measure=>simp [intOf];omega
  · obtain rfl:x=s:=oM;rw [hv];obtain rfl:u=v:=(by rw [<-hu,<-hv]);rw [hc] at h2;have e1:k - u < c:=oM;have e4:x < 257:=oM;have e5:(x:Int) < 257:=oM;obtain ⟨d,hd⟩:=eqx (k - u);rw [hd] at e1⊢;clear h1 h2 h3 h4 hu hv hv' hc hd;go_wp2_with fail;go_ret;exact ⟨rfl,Below.refl _ _⟩
theorem aBW (B gp ga:Nat) (vl vo vt vf:Value) (R P:Nat) (ks:List Nat) (C:List (Nat×Nat)) (tk:List Bool) (fr:List Nat) (row:Nat) (w:World) (h:PermAt w B gp ga vl vo vt vf R P ks C tk fr) (hs:ks.Pairwise (fun a b=>aB C a < aB C b)) (hk:ks.length<=1099511627776) (hno:∀k∈ks,aB C k≠row):
 Calls Tryz.prog 183 #[gp,(row:Int)] w fun e w'=>e=.returned (.int .i64 (-1))/\Below w.heap.size w w':=by
 have hat:=kN B gp ga vl vo vt vf R P ks C tk fr row w h hs hk;have hd:decide (∃k∈ks,aB C k=row)=false:=by simp only [decide_eq_false_iff_not];rintro ⟨k,h1,h2⟩;exact hno k h1 h2
 rw [hd] at hat;clear h hs hno hd;go_enter Tryz.func183,Tryz.ntmps183;go_wp2_with fail;refine hat.mono ?_;rintro e w1 ⟨rfl,hb1⟩;have Hb1:=lhd hb1;clear hat hb1;go_wp2_with fail;go_ret;exact ⟨rfl,Hb1.out⟩
theorem aBV (B gp ga:Nat) (vl vo vt vf:Value) (R P:Nat) (ks:List Nat) (C:List (Nat×Nat)) (tk:List Bool) (fr:List Nat) (row j:Nat) (w:World) (h:PermAt w B gp ga vl vo vt vf R P ks C tk fr) (hs:ks.Pairwise (fun a b=>aB C a < aB C b)) (hk:ks.length<=1099511627776) (hC:C.length<=1099511627776) (hj:j∈ks) (hjr:aB C j=row):
 Calls Tryz.prog 183 #[gp,(row:Int)] w fun e w'=>e=.returned (.int .i64 ((aH C j:Nat):Int))/\Below w.heap.size w w':=by
 have hat:=kN B gp ga vl vo vt vf R P ks C tk fr row w h hs hk;have hd:decide (∃k∈ks,aB C k=row)=true:=zBz ⟨j,hj,hjr⟩;rw [hd] at hat;obtain ⟨x,hx1,hx2⟩:=(tT hs row).2 ⟨j,hj,hjr⟩;obtain ⟨q,hq⟩:∃q,(ks.countP fun k=>decide (aB C k < row))=q:=⟨_,rfl⟩;rw [hq] at hx1 hat;have hxj:x=j:=by
  obtain ⟨a,ha,ea⟩:=zBo.1 hj;obtain ⟨b,eb⟩:=zAc.1 hx1;rcases Nat.lt_trichotomy a q with h1 | h1 | h1;have:=zAr.1 hs a q ha b h1;rw [ea,eb] at this;omega
  · subst h1;rw [<-ea,<-eb]
  have:=zAr.1 hs q a b ha h1;rw [ea,eb] at this;omega
 subst hxj;have hqn:q < ks.length:=(zAc.1 hx1).1;have hxC:x < C.length:=h.lt x hj;obtain ⟨g,cap,hvo,hnc,hgl⟩:=World.ownsRow.form h.orow oM;obtain ⟨g2,cap2,hvl,hnc2,hgl2⟩:=World.ownsRow.form h.lrow oM;subst hvo;subst hvl;have hpair:=(cF C x hxC).2;obtain ⟨H,Hx1,Hpair⟩:=hqq3 h hx1 hpair;have hqI:(q:Int) < (ks.length:Int):=oM;have hxI:(x:Int) < (C.length:Int):=oM;clear h hs hd hx2 hq hx1 hpair hj hjr;go_enter Tryz.func183,Tryz.ntmps183;go_wp2_with fail;refine hat.mono ?_;rintro e w1 ⟨rfl,hb1⟩;have h1:=H.out.below hb1;have c1:∀d,(w1.drewN d).cell? ⟨gp,1,none⟩=some (.slice (some ⟨g2,0,none⟩) C.length cap2):=fun d=>(h1.blk.cell 1).trans rfl;have c2:∀d,(w1.drewN d).cell? ⟨gp,2,none⟩=some (.slice (some ⟨g,0,none⟩) ks.length cap):=fun d=>(h1.blk.cell 2).trans rfl;have hgp:=h1.blk.lt;have c3:∀d,(w1.drewN d).cell? ⟨g,q,none⟩=some (.int .i64 (x:Int)):=fun d=>(World.ownsRow.cellAt h1.orow q oM).trans (by rw [zAf,Hx1.out];rfl);have c4:∀d,(w1.drewN d).cell? ⟨g2,x*2+1,none⟩=some (.int .i64 ((aH C x:Nat):Int)):=fun d=>(World.ownsRow.cellAt h1.lrow (x*2+1) oM).trans Hpair.out;have Hb1:=lhd hb1;have hgl1:=zAl hgl hb1.size;have hgl21:=zAl hgl2 hb1.size;obtain ⟨pp,hpp⟩:=eqx (aH C x);rw [hpp] at c4;have Hpp:=lhd hpp;clear hat hb1 h1 hpp;go_wp2_with fail;go_quiet (fail);go_wp2_with fail;go_ret;exact ⟨by rw [Hpp.out];rfl,below_drewN Hb1.out _⟩
theorem aIq {a b:Nat} (h:a≠b):((a:Int)==(b:Int))=false:=by rw [zCb];omega
theorem aHD {L1 L2:List Nat} {k n:Nat} (h1:L1.length=n) (h2:L2.length=n) (h:L1.take k=L2.take k) (hk:n<=k):L1=L2:=by
 rw [zAg oM,zAg oM] at h;exact h
theorem uG (A1 A2:Option Addr) (n1 c1 n2 c2 B1 B2:Nat) (L1 L2:List Nat) (w:World) (h1:Rd w B1 1 A1 n1 (L1.map sv)) (h2:Rd w B2 1 A2 n2 (L2.map sv)) (hn:n1<=1099511627776) (hn2:n2<=1099511627776):
 Calls Tryz.prog 15 #[.slice A1 n1 c1,.slice A2 n2 c2] w fun e w'=>e=.returned (.bool (decide (L1=L2)))/\Below w.heap.size w w':=by
 have l1:L1.length=n1:=by simpa using h1.1
 have l2:L2.length=n2:=by simpa using h2.1
 obtain ⟨H1,H2,HL1,HL2⟩:=hqq4 h1 h2 l1 l2;clear h1 h2 l1 l2;by_cases hne:n1=n2
 · subst hne;go_enter Tryz.func15,Tryz.ntmps15;go_wp2;go_loopw [5] (fun i wr=>∃k:Nat,k<=n1/\i=.int .i64 k/\L1.take k=L2.take k/\∃m,wr=w.drewN m) (fun i _=>n1 -(intOf i).toNat)
   case atStart=>exact ⟨0,zAp _,rfl,rfl,0,rfl⟩
   case round=>
    obtain ⟨k,hk,rfl,hpre,mm,rfl⟩:=hrel;by_cases hlt:k < n1
    · obtain ⟨x,hx⟩:∃x,L1[k]?=some x:=⟨L1[k]'(by have:=HL1.out;omega),zAa (by have:=HL1.out;omega)⟩;obtain ⟨y,hy⟩:∃y,L2[k]?=some y:=⟨L2[k]'(by have:=HL2.out;omega),zAa (by have:=HL2.out;omega)⟩;obtain ⟨b1,o1,u1,rfl,hb1,hu1,d1⟩:=H1.out.get hlt;obtain ⟨b2,o2,u2,rfl,hb2,hu2,d2⟩:=H2.out.get hlt;rw [zAf,hx] at hu1;rw [zAf,hy] at hu2;simp only [Option.map_some,Option.some.injEq] at hu1 hu2;subst hu1;subst hu2;unfold sv at d1 d2;obtain ⟨Hpre,Hx,Hy⟩:=hqq3 hpre hx hy;clear hpre hx hy;by_cases hxy:x=y
      · subst hxy;go_wp2;go_quiet (fail);go_wp2;go_roundw
        case rel=>refine ⟨k+1,by omega,by go_num,?_,_,rfl⟩;rw [zAv,zAv,Hpre.out,Hx.out,Hy.out]
        case measure=>simp [intOf];omega
      · have t:=aIq hxy
        have hfin:L1≠L2:=fun h=>hxy (by
         have a:=Hx.out;rw [h,Hy.out] at a;injection a with a;exact a.symm)
        have Hfin:=lhd hfin;clear hfin;go_wp2;go_quiet (fail);go_wp2;go_ret;exact ⟨bX (by rw [zBy Hfin.out]),below_drewN (below_drewN bR _) _⟩
    · have hge:n1<=k:=oM;have hfin:=lhd (aHD HL1.out HL2.out hpre hge);clear hpre;go_wp2;go_ret;exact ⟨bX (by rw [zBz hfin.out]),below_drewN bR _⟩
 · have hfin:L1≠L2:=fun h=>hne (by rw [<-HL1.out,<-HL2.out,h]);have Hfin:=lhd hfin;have t:=aIq hne;clear hfin;go_enter Tryz.func15,Tryz.ntmps15;go_wp2;go_ret;exact ⟨bX (by rw [zBy Hfin.out]),Below.refl _ _⟩
end
section
open Go.ChangeShapes Go.WideShapes Go.ChangeAt Go.RowKit Go.Deep
structure Stp where
 kind:Int
 p:Int
 k:Int
 A:Option Addr
 n:Nat
 c:Nat
 D:List UInt8
def jO (s:Stp):List Value:= [iv s.kind,iv s.p,iv s.k,.slice s.A s.n s.c]
def aIF (z:Int):Prop:=-9223372036854775808<=z/\z<=9223372036854775807
def Stp.good (w:World) (s:Stp):Prop:=aIF s.kind/\aIF s.p/\aIF s.k/\Rd w w.heap.size 1 s.A s.n (s.D.map bv)/\s.n<=s.c/\s.c<=maxLen
theorem wN {H:Type} {enc:TypeId×Value->H} {w:World} {fuel:Nat} {cs':List Value} {X:DataW H×List MemPlace}
 (ht':DataW.trod enc Tryz.prog w 0 (fun _=>true) true fuel 46 cs'=some X):∃s:Stp,cs'=jO s/\s.good w:=by
 have hC:Tryz.prog.cellsOf 46=4:=by kernel_rfl
 obtain ⟨fs,he,hone,hsz,⟨q0,g0,t0⟩,⟨q1,g1,t1⟩,⟨q2,g2,t2⟩,⟨q3,g3,t3⟩⟩:∃fs:Array Field,Tryz.prog.underlying 46=some (.struct fs)/\oneCellFields Tryz.prog fs=true/\fs.size=4/\(∃f,fs[0]?=some f/\f.type=3)/\(∃f,fs[1]?=some f/\f.type=3)/\(∃f,fs[2]?=some f/\f.type=3)/\(∃f,fs[3]?=some f/\f.type=26):=
  ⟨_,Tryz.underlying46,rfl,rfl,⟨_,rfl,rfl⟩,⟨_,rfl,rfl⟩,⟨_,rfl,rfl⟩,⟨_,rfl,rfl⟩⟩
 obtain ⟨ys,n',hn',hy,hlen,hyl,hfld⟩:=DataW.trod_struct he ht';rw [hC] at hlen
 match cs',hlen with
 | [u0,u1,u2,u3],_=>
   have y0:ys[0]?=some (ys[0]'(by rw [hyl,hsz];decide)):=zAa _;have y1:ys[1]?=some (ys[1]'(by rw [hyl,hsz];decide)):=zAa _;have y2:ys[2]?=some (ys[2]'(by rw [hyl,hsz];decide)):=zAa _;have y3:ys[3]?=some (ys[3]'(by rw [hyl,hsz];decide)):=zAa _;have f0:=hfld 0 _ g0;rw [(hone_of hone _ _ g0).1,(hone_of hone _ _ g0).2,t0,y0] at f0;simp only [List.drop_zero,List.drop_succ_cons,List.take_succ_cons,List.take_zero] at f0;have f1:=hfld 1 _ g1;rw [(hone_of hone _ _ g1).1,(hone_of hone _ _ g1).2,t1,y1] at f1;simp only [List.drop_zero,List.drop_succ_cons,List.take_succ_cons,List.take_zero] at f1;have f2:=hfld 2 _ g2;rw [(hone_of hone _ _ g2).1,(hone_of hone _ _ g2).2,t2,y2] at f2;simp only [List.drop_zero,List.drop_succ_cons,List.take_succ_cons,List.take_zero] at f2;have f3:=hfld 3 _ g3;rw [(hone_of hone _ _ g3).1,(hone_of hone _ _ g3).2,t3,y3] at f3;simp only [List.drop_zero,List.drop_succ_cons,List.take_succ_cons,List.take_zero] at f3;obtain ⟨z0,e0,_,w0⟩:=DataW.trod_int Tryz.underlying3 f0;obtain ⟨z1,e1,_,w1⟩:=DataW.trod_int Tryz.underlying3 f1;obtain ⟨z2,e2,_,w2⟩:=DataW.trod_int Tryz.underlying3 f2;injection e0 with e0;injection e1 with e1;injection e2 with e2;subst e0;subst e1;subst e2;have hsl:∃(A:Option Addr) (sn sc:Nat),u3=.slice A sn sc:=(by rcases open_slice Tryz.underlying26 f3 with ⟨h1,_⟩|⟨x1,l1,c1,_,_,_,_,h1,_⟩;injection h1 with h1;exact ⟨_,_,_,h1⟩;injection h1 with h1;exact ⟨_,_,_,h1⟩);obtain ⟨A,sn,sc,rfl⟩:=hsl;obtain ⟨zs,r1,r2,r3,r4⟩:=yD (d:=(ys[3]'(by rw [hyl,hsz];decide)).1) (p:=(ys[3]'(by rw [hyl,hsz];decide)).2) Tryz.underlying26 Tryz.underlying5 kR ⟨n',by simpa [Value.cells] using f3⟩;obtain ⟨bs,hbs⟩:=xY zs r2;rw [hbs] at r1;exact ⟨⟨z0,z1,z2,A,sn,sc,bs⟩,rfl,bounds_i64 w0,bounds_i64 w1,bounds_i64 w2,r1,r3,r4⟩
end
end Go.Proofs.YthldmddkfbijhaaGreatDoor
