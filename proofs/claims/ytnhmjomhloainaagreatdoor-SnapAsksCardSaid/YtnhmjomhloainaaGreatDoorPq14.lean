/- Parts of the walk, joined from several texts. Conditions: what each lemma says. -/
import Derived.Test.YtnhmjomhloainaaGreatDoorPq13
import Derived.Test.YtnhmjomhloainaaGreatDoorShi
import Derived.Sort.OwnSortedInts
set_option linter.all false
set_option maxRecDepth 100000
set_option maxHeartbeats 4000000
namespace Go.Proofs.YtnhmjomhloainaaGreatDoor
open Go.RowKit Go.Shelf
open Go.Sort (Holds)
def iL (p:Nat->Bool):List Nat->Nat->Int
 | [],_=>-1
 | k::l,i=>if p k then (i:Int) else iL p l (i+1)
theorem jP {p:Nat->Bool} {l:List Nat} (h:∀k∈l,p k=false) (i:Nat):iL p l i=-1:=by
 induction l generalizing i with
 | nil=>rfl
 | cons k l ih=>
   unfold iL;rw [zBw (by rw [h k (by simp)];simp)];exact ih (fun k hk=>h k (by simp [hk])) _
theorem sE {p:Nat->Bool} {l:List Nat} (h:∃k∈l,p k=true) (i:Nat):∃(j k:Nat),iL p l i=((i+j:Nat):Int)/\l[j]?=some k/\p k=true:=by
 induction l generalizing i with
 | nil=>obtain ⟨k,hk,_⟩:=h;cases hk
 | cons x l ih=>
   unfold iL;by_cases hx:p x=true;rw [zBx hx];exact ⟨0,x,rfl,rfl,hx⟩;rw [zBw hx];obtain ⟨k,hk,hp⟩:=h;have hk':k∈l:=(by rcases List.mem_cons.1 hk with rfl | h;exact absurd hp hx;exact h);obtain ⟨j,k',h1,h2,h3⟩:=ih ⟨k,hk',hp⟩ (i+1);exact ⟨j+1,k',by rw [h1];congr 1;omega,by simpa using h2,h3⟩
theorem aEM {c:Nat} {ks:List Nat} (h:∀k∈ks,k < c+1) (p:Nat->Bool) (d:Fin (c+1)) (i:Nat):Lib.idxByFrom (fun (_ y:Fin (c+1))=>p y.val) d ((ks.map fun k=>(⟨k %(c+1),Nat.mod_lt _ (Nat.succ_pos c)⟩:Fin (c+1)))) i=iL p ks i:=by
 induction ks generalizing i with
 | nil=>rfl
 | cons k l ih=>
   rw [List.map_cons];unfold Lib.idxByFrom iL;simp only [zBu (h k (by simp))];rw [ih (fun k hk=>h k (by simp [hk]))]
theorem iJ (B gp ga:Nat) (vl vo vt vf:Value) (R P:Nat) (ks:List Nat) (C:List (Nat×Nat)) (tk:List Bool) (fr:List Nat) (pos:Nat) (w:World) (h:PermAt w B gp ga vl vo vt vf R P ks C tk fr) (hk:ks.length<=1099511627776):
 Calls Tryz.prog 120 #[.pointer (some ⟨gp,0,none⟩),.int .i64 (pos:Int)] w fun e w'=>e=.returned (.int .i64 (iL (fun k=>decide (aF C k=pos)) ks 0))/\Below w.heap.size w w':=by
 have hgp:=h.blk.lt;have c2:w.cell? ⟨gp,2,none⟩=some vo:=(h.blk.cell 2).trans rfl;obtain ⟨W,hW⟩:∃W,W=(w.alloc (.cells #[.pointer (some ⟨gp,0,none⟩)] 85)).alloc (.cells #[.int .i64 (pos:Int)] 3):=⟨_,rfl⟩;have hbx:Below w.heap.size w W:=hW ▸(bR.alloc nL _).alloc (by simp) _;have hbk1:Bk W w.heap.size 85 #[.pointer (some ⟨gp,0,none⟩)]:=hW ▸(Bk.new _ _ _).alloc _;have hbk2:Bk W (w.heap.size+1) 3 #[.int .i64 (pos:Int)]:=by have:=Bk.new (w.alloc (.cells #[.pointer (some ⟨gp,0,none⟩)] 85)) 3 #[.int .i64 (pos:Int)];rw [<-hW] at this;simpa using this
 have hcall:∀A n c,vo=.slice A n c->Calls Tryz.prog 182 #[.slice A n c,.func (.func 183) #[] #[.pointer (some ⟨w.heap.size,0,none⟩),.pointer (some ⟨w.heap.size+1,0,none⟩)]] W fun e w'=>e=.returned (.int .i64 (iL (fun k=>decide (aF C k=pos)) ks 0))/\Below w.heap.size w w':=by
  intro A n c ev;rcases zBa ks.length with h0 | h0;have hke:ks= []:=zBk h0;obtain ⟨A9,c9,e9,_⟩:=aR h.orow;rw [ev] at e9;injection e9 with _ e9 _;rw [h0] at e9;subst e9;subst hke;refine (AnyE.slices_IndexFunc_empty shIdx A c (.func (.func 183) #[] #[.pointer (some ⟨w.heap.size,0,none⟩),.pointer (some ⟨w.heap.size+1,0,none⟩)]) _).mono ?_;rintro e w' ⟨rfl,rfl⟩;exact ⟨rfl,hbx⟩
  · rcases h.orow.2 with ⟨_,e⟩|⟨g,cap,cs,e,hBg,hg,hn,hm,hz,ht⟩;omega
    · rw [ev] at e;injection e with e1 e2 e3;subst e1 e2 e3;rw [zBl] at ht;obtain ⟨k0,hk0⟩:∃k,k∈ks:=(by obtain ⟨x,hx⟩:=List.exists_mem_of_length_pos h0;exact ⟨x,hx⟩);obtain ⟨cc,hcc⟩:∃cc,C.length=cc+1:=⟨C.length - 1,by have:=h.lt k0 hk0;omega⟩;have hlt':∀k∈ks,k < cc+1:=fun k hk=>by rw [<-hcc];exact h.lt k hk
      have hgb:Bk w g 3 cs:=hg;have hgA:=hgb.below hbx hgb.lt;have hH:=oN hgA hlt' ht;have hp:PredAt Tryz.prog 183 #[.pointer (some ⟨w.heap.size,0,none⟩),.pointer (some ⟨w.heap.size+1,0,none⟩)] (eR cc) (fun x=>decide (aF C x.val=pos)) W:=(by intro W' x hb';have hb1:=hbk1.below hb' hbk1.lt;have hb2:=hbk2.below hb' hbk2.lt;obtain ⟨A,n,c,e,hp⟩:=h.prd (w':=W') (hb1.cell 0) (hbx.trans (hb'.mono hbx.size));exact aAG w.heap.size (w.heap.size+1) gp A n c C x.val pos W' hp (hb2.cell 0) (by rw [hcc];exact x.isLt));have hz9:ks.length=(ks.map fun k=>(⟨k %(cc+1),Nat.mod_lt _ (Nat.succ_pos cc)⟩:Fin (cc+1))).length:=(by simp);have hI:=AnyE.slices_IndexFunc shIdx (eR cc) (fun x=>decide (aF C x.val=pos)) 183 #[.pointer (some ⟨w.heap.size,0,none⟩),.pointer (some ⟨w.heap.size+1,0,none⟩)] (enters_of Tryz.func183 kR rfl) g 0 ks.length c (ks.map fun k=>(⟨k %(cc+1),Nat.mod_lt _ (Nat.succ_pos cc)⟩:Fin (cc+1))) W hp (by simp) oM (fun j hj=>by
       have h1:=(hH j (by simpa [fF] using hj)).1;simpa [fF] using h1)
      rw [zAg (by simp),Lib.idxBy,aEM hlt' (fun k=>decide (aF C k=pos))] at hI;refine hI.mono ?_;rintro e w' ⟨rfl,q,rfl⟩;exact ⟨rfl,hbx.os,hbx.tape,hbx.output,hbx.size,hbx.block⟩
 obtain ⟨A,c,e,_⟩:=aR h.orow;have hc:=hcall _ _ _ e;rw [e] at c2;obtain ⟨i,hi⟩:∃i,iL (fun k=>decide (aF C k=pos)) ks 0=i:=⟨_,rfl⟩;rw [hi] at hc;rw [hi];subst hW;clear hcall h hi hbx e hbk1 hbk2;go_enter Tryz.func120,Tryz.ntmps120;go_wp2_with fail;refine hc.mono ?_;rintro e w' ⟨rfl,hb⟩;go_wp2_with fail;go_ret;exact ⟨rfl,hb⟩
end Go.Proofs.YtnhmjomhloainaaGreatDoor
namespace Go.Proofs.YtnhmjomhloainaaGreatDoor
open Go.RowKit
theorem oH (ga:Nat) (A:Option Addr) (c:Nat) (Af:Option Addr) (cf N M:Nat) (w:World) (hb:Bk w ga 215 #[.slice A N c,.slice Af M cf,.int .i64 268435456]) (hN:N<=1048576) (hM:M<=N):
 Calls Tryz.prog 184 #[.pointer (some ⟨ga,0,none⟩)] w fun e w'=>e=.returned (.int .i64 ((N - M:Nat):Int))/\Below w.heap.size w w':=by
 have c0:w.cell? ⟨ga,0,none⟩=some (.slice A N c):=(hb.cell 0).trans rfl;have c1:w.cell? ⟨ga,1,none⟩=some (.slice Af M cf):=(hb.cell 1).trans rfl;have h64:IntKind.i64.wrap ((N:Int) -(M:Int))=((N - M:Nat):Int):=by rw [IntKind.wrap_i64];omega
 clear hb;go_enter Tryz.func184,Tryz.ntmps184;go_wp2;go_quiet (fail);go_wp2;go_ret;exact ⟨fC oM,below_drewN bR _⟩
theorem qI (B ga:Nat) (A:Option Addr) (c:Nat) (Af:Option Addr) (cf N:Nat) (tk:List Bool) (w:World) (hb:Bk w ga 215 #[.slice A N c,.slice Af 0 cf,.int .i64 268435456]) (hown:w.ownsRow B 4 1 (.slice A N c) N (tk.map Value.bool)) (hB:B<=w.heap.size) (hN:N<=1000000):
 Calls Tryz.prog 121 #[.pointer (some ⟨ga,0,none⟩)] w fun e w'=>e=.returned (.tuple #[.int .i64 (N:Int),.int .i64 0])/\Keep (fun b=>b=ga∨(Value.slice A N c).ownBlock=some b) w w'/\∃vt,Bk w' ga 215 #[vt,.slice Af 0 cf,.int .i64 268435456]/\w'.ownsRow B 4 1 vt (N+1) ((tk++ [true]).map Value.bool)/\(vt.ownBlock=(Value.slice A N c).ownBlock∨∃g,vt.ownBlock=some g/\w.heap.size<=g):=by
 obtain ⟨i0,hi0,hz0,hz1,hz2⟩:=info_parts rO;have hgl:=hb.lt;obtain ⟨Hb,Hown,Hne⟩:=hqq3 hb hown (aZ hown hb dC);clear hb hown;go_enter Tryz.func121,Tryz.ntmps121;go_wp2;refine wp_region_any kR ?_;refine aX [10,11,12,13,14,15,16,9] (Grow) (Vs [is (.pointer (some ⟨ga,0,none⟩)),is (.int .i64 (N:Int)),is (.pointer (some ⟨ga,0,none⟩)),is (.pointer (some ⟨ga,0,none⟩)),is (.pointer (some ⟨ga,2,none⟩)),is (.int .i64 268435456),is (.bool false),is (.bool false)]) _ _ rfl kR bR (fun _ _=>Grow.trans) (cY (by repeat' (first | exact cA _ _ | exact bS _ |(refine zAe.2 ⟨?_,?_⟩)|(intro p hp;cases hp)))) ?_ ?_
 · refine aT ?_;refine pH 0 (.pointer (some ⟨ga,0,none⟩)) ?_;refine sC (fun _ w5 hS _ _ _ hval _ _ _ hK=>?_) ?_
   · have e10:_=_:=hval 0 10 kR rfl;replace hS:(Grow) w w5:=⟨hS.os,hS.tape,hS.output,hS.size,hS.block⟩;go_simp;refine (oH ga A c Af cf N 0 w5 (Hb.out.below hS Hb.out.lt) oM oM).mono ?_;rintro e w8 ⟨rfl,hb8⟩;exact hK _ _ hb8 rfl
   refine pH 0 (.pointer (some ⟨ga,0,none⟩)) ?_;refine pV 2 12 ?_;refine pV 3 13 ?_;refine sC (fun _ w5 hS _ _ _ hval _ _ _ hK=>?_) ?_
   · have e14:_=_:=hval 4 14 kR rfl;replace hS:(Grow) w w5:=⟨hS.os,hS.tape,hS.output,hS.size,hS.block⟩;have c15:w5.cell? ⟨ga,2,none⟩=some (.int .i64 268435456):=((Hb.out.below hS Hb.out.lt).cell 2).trans rfl;go_simp;exact hK _ _ bR rfl
   refine sC (fun _ _ _ _ _ _ hval _ _ _ hK=>?_) ?_
   · have e11:_=_:=hval 1 11 kR rfl;have e15:_=_:=hval 5 15 kR rfl;have hne:((N:Int)==268435456)=false:=(by simp;omega);go_simp;exact hK _ _ bR (by first | rfl | simp [is] |(simp [is];omega))
   refine pV 6 16 ?_;exact aG
 · intro ev w6 hS hval;replace hS:(Grow) w w6:=⟨hS.os,hS.tape,hS.output,hS.size,hS.block⟩;have e9:ev (.tmp 9)=.bool false:=hval 7 9 rfl;simp only [aO,zq1,zq2,Act.put,zq3,zq4,zq5];rw [e9];clear hval;have hb2:=Hb.out.below hS Hb.out.lt;have hsz2:=Below.size hS;have hown2:=aV Hown.out hS;have c1:w6.cell? ⟨ga,1,none⟩=some (.slice Af 0 cf):=(hb2.cell 1).trans rfl;have c0:w6.cell? ⟨ga,0,none⟩=some (.slice A N c):=(hb2.cell 0).trans rfl;have f0:=hb2.frozen 0;have hga6:ga < w6.heap.size:=oM;obtain ⟨HS2,Hb2,Hown2⟩:=hqq3 hS hb2 hown2;clear hS hb2 hown2;generalize w6=W2 at Hb2 hsz2 c0 c1 f0 HS2 hga6 Hown2⊢;have a0:=(World.cell?_alloc_lt W2 (Obj.cells #[.bool true] 4) ⟨ga,0,none⟩ hga6).trans c0;go_wp2_with (at_builtin;refine aY _ rfl (.tmp 53) (.tmp 54) _ rfl B 4 i0 (.bool false) 1 1 Tryz.underlying205 hi0 hz0 hz1 hz2 rfl dC (.slice A N c) N _ rfl Hown2.out rfl rfl (by simp [Value.oneCell']) (by unfold maxLen;omega) oM oM ?_;intro v5 w5 hown5 hg5 hs5 hat5;have hbk5:=Hb2.out.grown hg5 Hne.out;obtain ⟨Hown5,Hg5,Hat5,Hbk5⟩:=hqq4 hown5 hg5 hat5 hbk5;have d0:w5.cell? ⟨ga,0,none⟩=some (.slice A N c):=(hbk5.cell 0).trans rfl;have g0:=hbk5.frozen 0;obtain ⟨A9,c9,rfl,hm9⟩:=aS hown5;clear hown5 hg5 hat5 hbk5 hm9);go_ret2;have hset:=Keep.setCell (F:=fun b=>b=ga∨(Value.slice A N c).ownBlock=some b) (Keep.refl _ w5) (p:=⟨ga,0,none⟩) (.inl (.inl rfl)) (.slice A9 (N+1) c9);have hk2:Keep (fun b=>b=ga∨(Value.slice A N c).ownBlock=some b) w W2:=Keep.of_below HS2.out;have hk5:=hk2.grown Hg5.out (fun k hk=>.inl (.inr hk));refine ⟨rfl,hk5.trans' hset (fun b _ h=>h),_,Hbk5.out.set 0 _,?_,?_⟩;have:=aB (w':=w5.setCell ⟨ga,0,none⟩ (.slice A9 (N+1) c9)) Hown5.out fun b cs _ hb'=>hb'.far (Bk.ne hb' Hbk5.out dC) _;simpa using this;rcases Hat5.out with h | h;exact .inl h;exact .inr ⟨_,h,by have:=HS2.out.size;omega⟩
theorem oG (B:Nat) (A:Option Addr) (n c:Nat) (xs:List Value) (Av:Option Addr) (cv k:Nat) (w:World) (hown:w.ownsRow B 3 1 (.slice A n c) n xs) (hr:Rd w w.heap.size 1 Av 1 [sv k]) (hB:B<=w.heap.size) (hn:n<=1000000):
 Calls Tryz.prog 122 #[.slice A n c,.int .i64 (n:Int),.slice Av 1 cv] w fun e w'=>∃v,e=.returned v/\w'.ownsRow B 3 1 v (n+1) (xs++ [sv k])/\w.grownBy w' (Value.slice A n c).ownBlock/\(v.ownBlock=(Value.slice A n c).ownBlock∨v.ownBlock=some w.heap.size):=by
 obtain ⟨i0,hi0,hz0,hz1,hz2⟩:=info_parts fK;have kc:=oK (P:=Tryz.prog) 22 3 1 Tryz.underlying22 Tryz.sizeOf3 A n c n nL;obtain ⟨Hown,Hr⟩:=hqq2 hown hr;clear hown hr;go_enter Tryz.func122,Tryz.ntmps122;go_wp2_with (at_builtin;refine bY _ rfl (.tmp 23) (.tmp 24) _ rfl B 3 i0 (.int .i64 0) 1 8 Tryz.underlying22 hi0 hz0 hz1 hz2 rfl dC (.slice A n c) n _ rfl Hown.out w.heap.size Av 1 cv _ rfl Hr.out (by simp [Value.oneCell',sv]) (by unfold maxLen;omega) oM hB ?_;intro v5 w5 hown5 hg5 hat5);go_ret;exact ⟨v5,rfl,hown5,hg5,hat5⟩
theorem rE:(Tryz.prog.info? 159).map (fun i=>(i.zero,i.size,i.bytes))=some (some (.agg #[.int .i64 0,.int .i64 0]),2,16):=by kernel_rfl
def PF (gp ga:Nat) (vl vo vt:Value) (b:Nat):Prop:=b=gp∨b=ga∨vl.ownBlock=some b∨vo.ownBlock=some b∨vt.ownBlock=some b
theorem jM (C:List (Nat×Nat)) (x:Nat×Nat):bO (C++ [x])=bO C++lQ x:=by simp [bO]
theorem PermAt.below {w w':World} {B gp ga:Nat} {vl vo vt vf:Value} {R P:Nat} {ks:List Nat} {C:List (Nat×Nat)} {tk:List Bool} {fr:List Nat} (h:PermAt w B gp ga vl vo vt vf R P ks C tk fr) (k:Below w.heap.size w w'):PermAt w' B gp ga vl vo vt vf R P ks C tk fr:=
 ⟨h.blk.below k h.blk.lt,aV h.lrow k,aV h.orow k,h.ar.below k h.ar.lt,aV h.trow k,aV h.frow k,h.apart,h.lt,h.lo⟩
theorem fU {F:Nat->Prop} {w w':World} {B:Nat} {e:TypeId} {sz n:Nat} {v:Value} {xs:List Value} (h:w.ownsRow B e sz v n xs) (k:Keep F w w') (hf:∀b cs,F b->Bk w b e cs->False):w'.ownsRow B e sz v n xs:=
 aB h fun b cs _ hb=>k.bk hb (fun f=>hf b cs f hb)
theorem aF5 {w:World} {B g cap:Nat} {C:List (Nat×Nat)} {y:Nat×Nat} (h:w.ownsRow B 159 2 (.slice (some ⟨g,0,none⟩) (C.length+1) cap) (C.length+1) (bO (C++ [y]))) (x:Nat×Nat):
 ((w.setCell ⟨g,C.length*2,none⟩ (.int .i64 (x.1:Int))).setCell ⟨g,C.length*2+1,none⟩ (.int .i64 (x.2:Int))).ownsRow B 159 2 (.slice (some ⟨g,0,none⟩) (C.length+1) cap) (C.length+1) (bO (C++ [x])):=by
 rcases h.2 with ⟨h1,_⟩|⟨g',cap',cur,h1,h2,h3,h4,h5,h6,h7⟩
 · cases h1
 · injection h1 with h8 h9 h10;injection h8 with h8;injection h8 with h8 _;subst h8 h10;have hb:Bk w g 159 cur:=h3;have hb2:=(hb.set (C.length*2) (.int .i64 (x.1:Int))).set (C.length*2+1) (.int .i64 (x.2:Int));refine ⟨by rw [cW];simp,.inr ⟨g,cap,_,rfl,h2,hb2,h4,h5,by simpa using h6,?_⟩⟩;rw [jM] at h7⊢;have hl:=cW C;apply List.ext_getElem?;intro i;have hi:=congrArg (fun l=>l[i]?) h7;simp only [zBs,Array.getElem?_toList] at hi;rw [zBs,Array.getElem?_toList,zCd,zCd];by_cases c1:i < C.length*2
   · rw [zBx oM] at hi⊢;rw [zBw oM,zBw oM,hi,zAn oM,zAn oM]
   · by_cases c2:i=C.length*2;subst c2;rw [zBx oM,zBw oM,zBx rfl,zBx oM,zAo oM,hl,Nat.sub_self];rfl
     · by_cases c3:i=C.length*2+1;subst c3;rw [zBx oM,zBx rfl,zBx (by simp;omega),zAo oM,hl,show C.length*2+1 - C.length*2=1 by omega];rfl
       · rw [zBw oM,zBg (by simp [lQ];omega)]
theorem aB7 (B gp ga:Nat) (vl vo vt:Value) (R P:Nat) (ks:List Nat) (C:List (Nat×Nat)) (tk:List Bool) (row pos:Nat) (w:World) (h:PermAt w B gp ga vl vo vt (.slice none 0 0) R P ks C tk []) (hs:ks.Pairwise (fun a b=>aC C a < aC C b))
 (hr:∀k∈ks,aC C k < row) (hp:∀k∈ks,aF C k≠pos) (hR:row < R) (hP:pos < P) (ht:tk.length=C.length) (hC:C.length<=900000) (hk:ks.length<=900000) (hB:B<=w.heap.size):
 Calls Tryz.prog 53 #[.pointer (some ⟨gp,0,none⟩),.int .i64 (row:Int),.int .i64 (pos:Int)] w fun e w'=>e=.returned (.int .i64 0)/\Keep (PF gp ga vl vo vt) w w'/\∃vl' vo' vt',PermAt w' B gp ga vl' vo' vt' (.slice none 0 0) R P (ks++ [C.length]) (C++ [(row,pos)]) (tk++ [true]) []/\(vo'.ownBlock=vo.ownBlock∨∃g,vo'.ownBlock=some g/\w.heap.size<=g)/\(vl'.ownBlock=vl.ownBlock∨∃g,vl'.ownBlock=some g/\w.heap.size<=g)/\(vt'.ownBlock=vt.ownBlock∨∃g,vt'.ownBlock=some g/\w.heap.size<=g):=by
 obtain ⟨i0,hi0,hz0,hz1,hz2⟩:=info_parts rE;have hcnt:ks.countP (fun k=>decide (aC C k < row))=ks.length:=List.countP_eq_length.2 fun k hk=>by simpa using hr k hk
 have hfnd:decide (∃k∈ks,aC C k=row)=false:=by rw [decide_eq_false_iff_not];rintro ⟨k,hk,e⟩;have:=hr k hk;omega
 have hhas:iL (fun k=>decide (aF C k=pos)) ks 0=-1:=jP (fun k hk=>by simpa using hp k hk) 0;have c3:w.cell? ⟨gp,3,none⟩=some (.int .i64 (R:Int)):=(h.blk.cell 3).trans rfl;have c4:w.cell? ⟨gp,4,none⟩=some (.int .i64 (P:Int)):=(h.blk.cell 4).trans rfl;have hat:=jH B gp ga vl vo vt (.slice none 0 0) R P ks C tk [] row w h hs oM;rw [hcnt,hfnd] at hat;have hhs:=fun W hW=>iJ B gp ga vl vo vt (.slice none 0 0) R P ks C tk [] pos W hW oM;simp only [hhas] at hhs;obtain ⟨n,hn⟩:=eqx ks.length;obtain ⟨N,hN⟩:∃n,C.length=n:=⟨_,rfl⟩;rw [hn] at hat;obtain ⟨Hhs,H,Hn,HN,Ht⟩:=hqq5 hhs h hn hN ht;have hN9:N<=900000:=oM;have hn9:n<=900000:=oM;have HB:=lhd hB;clear hcnt hfnd hhas hhs hs hr hp h hn hN ht hC hk hB;go_enter Tryz.func53,Tryz.ntmps53;go_wp2_with fail;refine hat.mono ?_;clear hat;rintro e w1 ⟨rfl,hb1⟩;have h1:=H.out.below hb1;obtain ⟨H1,Hb1⟩:=hqq2 h1 hb1;clear h1 hb1 c3 c4;go_wp2_with fail;refine (Hhs.out w1 H1.out).mono ?_;rintro e w2 ⟨rfl,hb2⟩;have h2:=H1.out.below hb2;have hb12:=Hb1.out.trans (hb2.mono Hb1.out.size);have c0:w2.cell? ⟨gp,0,none⟩=some (.pointer (some ⟨ga,0,none⟩)):=(h2.blk.cell 0).trans rfl;obtain ⟨H2,Hb2⟩:=hqq2 h2 hb12;clear h2 hb12 hb2 H1 Hb1 Hhs;go_wp2_with fail;obtain ⟨At,ct,hvt,_⟩:=aR H2.out.trow;have htk:tk.length=N:=by rw [Ht.out,HN.out]
 have hT:=qI B ga At ct none 0 N tk w2 (by have:=H2.out.ar;rw [hvt,htk] at this;exact this) (by have:=H2.out.trow;rw [hvt,htk] at this;exact this) (by have:=HB.out;have:=Hb2.out.size;omega) oM;have hvt':vt=.slice At N ct:=by rw [hvt,htk]
 rw [<-hvt'] at hT;refine hT.mono ?_;clear hT hvt hvt' htk;rintro e w3 ⟨rfl,hk3,vt',hbk3,hown3,hfr3⟩;have hgp3:=hk3.bk H2.out.blk (fun f=>by
  rcases f with f | f;exact Bk.ne H2.out.blk H2.out.ar dC f
  · exact aZ H2.out.trow H2.out.blk dC f.symm)
 have hvl3:=fU H2.out.lrow hk3 (fun b cs f hb=>by
  rcases f with f | f;subst f;exact Bk.ne hb H2.out.ar dC rfl
  · exact aZ H2.out.trow hb dC f.symm)
 have hvo3:=fU H2.out.orow hk3 (fun b cs f hb=>by
  rcases f with f | f;subst f;exact Bk.ne hb H2.out.ar dC rfl
  · exact aZ H2.out.trow hb dC f.symm)
 obtain ⟨Al,cl,hvl,_⟩:=aR hvl3;have hvl':vl=.slice Al N cl:=by rw [hvl,HN.out]
 have d1:w3.cell? ⟨gp,1,none⟩=some vl:=(hgp3.cell 1).trans rfl;have fp:=hgp3.frozen 1;rw [hvl'] at d1;have hgp3l:=hgp3.lt;rw [HN.out] at hvl3;have hB3:B<=w3.heap.size:=by have:=hk3.size;have:=HB.out;have:=Hb2.out.size;omega
 obtain ⟨Hk3,Hbk3,Hown3,Hfr3,Hgp3,Hvl3,Hvo3,Hvl⟩:=hqq8 hk3 hbk3 hown3 hfr3 hgp3 hvl3 hvo3 hvl';have e1:=(World.cell?_alloc_lt w3 (Obj.cells #[.int .i64 0,.int .i64 0] 159) ⟨gp,1,none⟩ hgp3l).trans d1;clear hk3 hbk3 hown3 hfr3 hgp3 hvl3 hvo3 hvl hvl' c0;go_wp2_with fail;refine wp_loop_rounds 2 ?_;rw [rounds_succ];go_wp2_with (at_builtin;refine aY _ rfl (.tmp 72) (.tmp 74) _ rfl B 159 i0 (.agg #[.int .i64 0,.int .i64 0]) 2 16 Tryz.underlying130 hi0 hz0 hz1 hz2 rfl dC vl N _ Hvl.out.symm Hvl3.out rfl rfl (by simp [Value.oneCell']) (by unfold maxLen;omega) oM hB3 ?_;intro v5 w5 hown5 hg5 hs5 hat5;have hbk5:=Hgp3.out.grown hg5 (aZ Hvl3.out Hgp3.out dC);have d5:w5.cell? ⟨gp,1,none⟩=some vl:=(hbk5.cell 1).trans rfl;have f5:=hbk5.frozen 1;rw [Hvl.out] at d5;obtain ⟨A9,c9,rfl,hm9⟩:=aS hown5;obtain ⟨Hbk5,Hown5,Hg5,Hat5⟩:=hqq4 hbk5 hown5 hg5 hat5;clear hm9 hown5 hg5 hat5 hbk5);obtain ⟨g9,cur9,rfl,hg9,hb9,hcz9⟩:∃g9,∃cur:Array Value,A9=some ⟨g9,0,none⟩/\B<=g9/\Bk w5 g9 159 cur/\N*2+1 < cur.size:=by rcases Hown5.out.2 with ⟨h1,h2⟩|⟨g,cap,cur,h1,h2,h3,h4,h5,h6,h7⟩;omega;injection h1 with h1 _ _;exact ⟨g,cur,h1,h2,h3,by omega⟩
 have hgpn:gp≠g9:=Bk.ne Hbk5.out hb9 dC;have hgp6:=Hbk5.out.set 1 (.slice (some ⟨g9,0,none⟩) (N+1) c9);have hb96:=hb9.far (p:=⟨gp,1,none⟩) (fun e=>hgpn e.symm) (.slice (some ⟨g9,0,none⟩) (N+1) c9);have hk6:Keep (PF gp ga vl vo vt) w2 (w5.setCell ⟨gp,1,none⟩ (.slice (some ⟨g9,0,none⟩) (N+1) c9)):=
  ((Hk3.out.mono (G:=PF gp ga vl vo vt) (fun b _ f=>by rcases f with f | f;exact .inr (.inl f);exact .inr (.inr (.inr (.inr f))))).grown Hg5.out (fun k hk=>.inl (.inr (.inr (.inl hk))))).setCell (.inl (.inl rfl)) _
 have hvl6:=aB (w':=w5.setCell ⟨gp,1,none⟩ (.slice (some ⟨g9,0,none⟩) (N+1) c9)) Hown5.out fun b cs _ hb=>hb.far (p:=⟨gp,1,none⟩) (Bk.ne hb Hbk5.out dC) _;have hvo5:=aB (w':=w5) Hvo3.out fun b cs _ hb=>hb.grown Hg5.out (aZ Hvl3.out hb dC);have hvo6:=aB (w':=w5.setCell ⟨gp,1,none⟩ (.slice (some ⟨g9,0,none⟩) (N+1) c9)) hvo5 fun b cs _ hb=>hb.far (p:=⟨gp,1,none⟩) (Bk.ne hb Hbk5.out dC) _;have hga5:=Hbk3.out.grown Hg5.out (aZ Hvl3.out Hbk3.out dC);have hga6:=hga5.far (p:=⟨gp,1,none⟩) (Bk.ne hga5 Hbk5.out dC) (.slice (some ⟨g9,0,none⟩) (N+1) c9);have hvt5:=aB (w':=w5) Hown3.out fun b cs _ hb=>hb.grown Hg5.out (aZ Hvl3.out hb dC);have hvt6:=aB (w':=w5.setCell ⟨gp,1,none⟩ (.slice (some ⟨g9,0,none⟩) (N+1) c9)) hvt5 fun b cs _ hb=>hb.far (p:=⟨gp,1,none⟩) (Bk.ne hb Hbk5.out dC) _;have hfr6:(Value.slice (some ⟨g9,0,none⟩) (N+1) c9).ownBlock=vl.ownBlock∨∃g,(Value.slice (some ⟨g9,0,none⟩) (N+1) c9).ownBlock=some g/\w2.heap.size<=g:=by rcases Hat5.out with f | f;exact .inl f;exact .inr ⟨_,f,by have:=Hk3.out.size;omega⟩
 clear Hk3 Hbk3 Hown3 Hgp3 Hvl3 Hvo3 Hbk5 Hown5 Hg5 Hat5 d1 fp e1 f5 d5 hvo5 hga5 hvt5;generalize w5.setCell ⟨gp,1,none⟩ (.slice (some ⟨g9,0,none⟩) (N+1) c9)=w6 at hgp6 hb96 hk6 hvl6 hvo6 hga6 hvt6⊢;have d1:w6.cell? ⟨gp,1,none⟩=some (.slice (some ⟨g9,0,none⟩) (N+1) c9):=(hgp6.cell 1).trans rfl;have x0:=hb96.cell (N*2);have x1:=hb96.cell (N*2+1);rw [zAq oM] at x0 x1;have y0:=hb96.frozen (N*2);have y1:=hb96.frozen (N*2+1);generalize cur9[N*2]' oM=u0 at x0;generalize cur9[N*2+1]' oM=u1 at x1;obtain ⟨Hgp6,Hb96,Hk6,Hvl6,Hvo6,Hga6,Hvt6,Hfr6⟩:=hqq8 hgp6 hb96 hk6 hvl6 hvo6 hga6 hvt6 hfr6;have hlt1:decide (N+1<=N)=false:=by simp
 have hlt2:decide ((N:Int)+1<=(N:Int))=false:=by simp;omega
 have d2:w6.cell? ⟨gp,2,none⟩=some vo:=(hgp6.cell 2).trans rfl;obtain ⟨Ao,co,hvo,_⟩:=aR hvo6;have hvo':vo=.slice Ao n co:=by rw [hvo,Hn.out]
 have Hvo:=lhd hvo';rw [hvo'] at d2;clear hgp6 hb96 hk6 hvl6 hvo6 hga6 hvt6 hfr6 hvo hvo' hb9 hcz9;rw [rounds_succ];go_wp2_with fail
 have hvl7:=aF5 (C:=C) (y:=(0,0)) (g:=g9) (cap:=c9) (w:=w6) (B:=B) (by
  rw [HN.out,jM];exact Hvl6.out) (row,pos)
 rw [HN.out] at hvl7;have hkk:Keep (fun b=>b=g9) w6 ((w6.setCell ⟨g9,N*2,none⟩ (.int .i64 (row:Int))).setCell ⟨g9,N*2+1,none⟩ (.int .i64 (pos:Int))):=((Keep.refl (fun b=>b=g9) w6).setCell (p:=⟨g9,N*2,none⟩) (.inl rfl) _).setCell (p:=⟨g9,N*2+1,none⟩) (.inl rfl) _;have hsz7:((w6.setCell ⟨g9,N*2,none⟩ (.int .i64 (row:Int))).setCell ⟨g9,N*2+1,none⟩ (.int .i64 (pos:Int))).heap.size=w6.heap.size:=by simp [World.setCell]
 rw [<-hsz7];clear x0 x1 y0 y1 d1 d2 hlt1 hlt2;generalize (w6.setCell ⟨g9,N*2,none⟩ (.int .i64 (row:Int))).setCell ⟨g9,N*2+1,none⟩ (.int .i64 (pos:Int))=w7 at hvl7 hkk hsz7⊢;have hgp7:=hkk.bk Hgp6.out (fun f=>hgpn f);have hga7:=hkk.bk Hga6.out (fun f=>by subst f;exact Bk.ne Hga6.out Hb96.out dC rfl);have hvo7:=fU Hvo6.out hkk (fun b cs f hb=>by subst f;exact Bk.ne hb Hb96.out dC rfl);have hvt7:=fU Hvt6.out hkk (fun b cs f hb=>by subst f;exact Bk.ne hb Hb96.out dC rfl);have hB2:B<=w2.heap.size:=by have:=HB.out;have:=Hb2.out.size;omega
 have hB6:=Hk6.out.size;have hB7:B<=(w7.alloc (.cells #[.int .i64 (N:Int)] 3)).heap.size:=by simp;omega
 have hz8:w7.heap.size < (w7.alloc (.cells #[.int .i64 (N:Int)] 3)).heap.size:=by simp
 have hrd8:Rd (w7.alloc (.cells #[.int .i64 (N:Int)] 3)) (w7.alloc (.cells #[.int .i64 (N:Int)] 3)).heap.size 1 (some ⟨w7.heap.size,0,none⟩) 1 [sv N]:=(Rd.new_ w7 3 1 #[.int .i64 (N:Int)] rfl).mono (by simp);have hvo8:=hvo7.alloc (.cells #[.int .i64 (N:Int)] 3);have hvl8:=hvl7.alloc (.cells #[.int .i64 (N:Int)] 3);have hvt8:=hvt7.alloc (.cells #[.int .i64 (N:Int)] 3);have hgp8:=hgp7.alloc (.cells #[.int .i64 (N:Int)] 3);have hga8:=hga7.alloc (.cells #[.int .i64 (N:Int)] 3);have hb78:Below w7.heap.size w7 (w7.alloc (.cells #[.int .i64 (N:Int)] 3)):=bR.alloc nL _;obtain ⟨g7,hg7⟩:∃g,w7.heap.size=g:=⟨_,rfl⟩;rw [hg7] at hrd8 hz8;rw [hg7];generalize w7.alloc (.cells #[.int .i64 (N:Int)] 3)=w8 at hB7 hrd8 hvo8 hvl8 hvt8 hgp8 hga8 hb78 hz8⊢;have hk8:Keep (PF gp ga vl vo vt) w2 w8:=(Hk6.out.trans' (hkk.trans' (Keep.of_below hb78) (fun _ _ f=>f)) (fun b hb f=>by
  rcases Hfr6.out with h |⟨g,h,h'⟩;exact .inr (.inr (.inl (by rw [<-h,f];rfl)))
  · exfalso;have:g9=g:=(by simpa [Value.ownBlock] using h);omega))
 rw [Hn.out,Hvo.out] at hvo8;have hins:=oG B Ao n co (ks.map sv) (some ⟨g7,0,none⟩) 1 N w8 hvo8 hrd8 hB7 oM;refine hins.mono ?_;clear hins;rintro e w9 ⟨v9,rfl,hown9,hg9',hat9⟩;rw [<-Hvo.out] at hg9' hat9 hvo8;have hgp9:=hgp8.grown hg9' (aZ hvo8 hgp8 dC);have hga9:=hga8.grown hg9' (aZ hvo8 hga8 dC);have hvl9:=aB (w':=w9) hvl8 fun b cs _ hb=>hb.grown hg9' (aZ hvo8 hb dC);have hvt9:=aB (w':=w9) hvt8 fun b cs _ hb=>hb.grown hg9' (aZ hvo8 hb dC);have hk9:=hk8.grown hg9' (fun k hk=>.inl (.inr (.inr (.inr (.inl hk)))));have hfr9:v9.ownBlock=vo.ownBlock∨∃g,v9.ownBlock=some g/\w2.heap.size<=g:=by rcases hat9 with f | f;exact .inl f;exact .inr ⟨_,f,hk8.size⟩
 have d2:w9.cell? ⟨gp,2,none⟩=some vo:=(hgp9.cell 2).trans rfl;rw [Hvo.out] at d2;have f2:=hgp9.frozen 2;obtain ⟨A',c',hv9,_⟩:=aR hown9;obtain ⟨Hv9,Hgp9,Hga9,Hvl9,Hvt9,Hown9,Hk9,Hfr9⟩:=hqq8 hv9 hgp9 hga9 hvl9 hvt9 hown9 hk9 hfr9;clear hvl7 hkk hsz7 hgp7 hga7 hvo7 hvt7 hB7 hz8 hrd8 hvo8 hvl8 hvt8 hgp8 hga8 hb78 hg7 hk8 hg9' hat9 hgp9 hga9 hvl9 hvt9 hown9 hk9 hfr9;subst hv9;go_wp2_with fail;go_ret;have hne:∀b t cs,Bk w9 b t cs->t≠157->Bk (w9.setCell ⟨gp,2,none⟩ (.slice A' (n+1) c')) b t cs:=fun b t cs hb ht=>hb.far (p:=⟨gp,2,none⟩) (Bk.ne hb Hgp9.out ht) _;refine ⟨rfl,(Keep.of_below Hb2.out).trans' (Hk9.out.setCell (.inl (.inl rfl)) _) (fun _ _ f=>f),.slice (some ⟨g9,0,none⟩) (N+1) c9,.slice A' (n+1) c',vt',⟨Hgp9.out.set 2 _,?_,?_,hne _ _ _ Hga9.out dC,?_,?_,?_,?_,H.out.lo⟩,?_,?_,?_⟩;have:=aB (w':=w9.setCell ⟨gp,2,none⟩ (.slice A' (n+1) c')) Hvl9.out fun b cs _ hb=>hne _ _ _ hb dC;simpa [HN.out] using this;have:=aB (w':=w9.setCell ⟨gp,2,none⟩ (.slice A' (n+1) c')) Hown9.out fun b cs _ hb=>hne _ _ _ hb dC;simpa [Hn.out,HN.out] using this;have:=aB (w':=w9.setCell ⟨gp,2,none⟩ (.slice A' (n+1) c')) Hvt9.out fun b cs _ hb=>hne _ _ _ hb dC;simpa [Ht.out,HN.out] using this;exact World.ownsRow_nil _ _ _ _;rcases (Value.slice A' (n+1) c').ownBlock with _ | g;exact .inl rfl;exact .inr (by simp [Value.ownBlock]);intro k hk;rcases zCo.1 hk with h | h;have:=H.out.lt k h;simp;omega;simp at h;simp;omega;rcases Hfr9.out with f |⟨g,f,f'⟩;exact .inl f;exact .inr ⟨g,f,by have:=Hb2.out.size;omega⟩;rcases Hfr6.out with f |⟨g,f,f'⟩;exact .inl f;exact .inr ⟨g,f,by have:=Hb2.out.size;omega⟩;rcases Hfr3.out with f |⟨g,f,f'⟩;exact .inl f;exact .inr ⟨g,f,by have:=Hb2.out.size;omega⟩
end Go.Proofs.YtnhmjomhloainaaGreatDoor
namespace Go.Proofs.YtnhmjomhloainaaGreatDoor
open Go.RowKit Go.Shelf
theorem gY (g:Nat):∀(vs:List Value) (o:Nat) (w:World) (t:TypeId) (cs:Array Value),Bk w g t cs->∃cs':Array Value,Bk (w.setCells g o vs) g t cs'/\cs'.size=cs.size/\∀j,j < cs.size->cs'[j]?=if o<=j/\j < o+vs.length then vs[j - o]? else cs[j]?
 | [],o,w,t,cs,h=>⟨cs,h,rfl,fun j hj=>by rw [zBw (by simp)]⟩
 | v::vs,o,w,t,cs,h=>by
   obtain ⟨cs',h1,h2,h3⟩:=gY g vs (o+1) (w.setCell ⟨g,o,none⟩ v) t _ (h.set o v);refine ⟨cs',h1,by rw [h2];simp,fun j hj=>?_⟩;rw [h3 j (by simpa using hj)];by_cases c:o+1<=j/\j < o+1+vs.length;rw [zBx c,zBx (by simp;omega),show j - o=(j -(o+1))+1 by omega];rfl
   · rw [zBw c,zCd];by_cases e:o=j;subst e;rw [zBx rfl,zBx hj,zBx (by simp),Nat.sub_self];rfl
     · rw [zBw e,zBw (by simp;omega)]
theorem jV (g:Nat):∀(vs:List Value) (o:Nat) (w0 w:World),Keep (fun b=>b=g) w0 w->Keep (fun b=>b=g) w0 (w.setCells g o vs)
 | [],_,_,_,h=>h
 | v::vs,o,w0,w,h=>jV g vs (o+1) w0 (w.setCell ⟨g,o,none⟩ v) (h.setCell (p:=⟨g,o,none⟩) (.inl rfl) v)
theorem fY {F:Nat->Prop} (g:Nat):∀(vs:List Value) (o:Nat) (w0 w:World),w0.heap.size<=g->Keep F w0 w->Keep F w0 (w.setCells g o vs)
 | [],_,_,_,_,h=>h
 | v::vs,o,w0,w,hg,h=>fY g vs (o+1) w0 (w.setCell ⟨g,o,none⟩ v) hg (h.setCell (p:=⟨g,o,none⟩) (.inr hg) v)
theorem Bk.shape {w:World} {g:Nat} {t:TypeId} {cs:Array Value} (h:Bk w g t cs):w.shape? g=some (t,cs.size):=by
 unfold Bk at h;unfold World.shape?;rw [h]
theorem fV {cs:Array Value} {xs:List Value} {n:Nat} (hl:xs.length=n) (hn:n<=cs.size) (h:∀j,j < n->cs[j]?=xs[j]?):cs.toList.take n=xs:=by
 apply List.ext_getElem?;intro j;by_cases hj:j < n;rw [List.getElem?_take_of_lt hj,Array.getElem?_toList];exact h j hj
 · rw [List.getElem?_take_eq_none oM,zBg oM]
theorem rG {w:World} {B g n c:Nat} {e:TypeId} {xs:List Value} (h:w.ownsRow B e 1 (.slice (some ⟨g,0,none⟩) n c) n xs) (hn:0 < n):∃cs:Array Value,Bk w g e cs/\cs.size=c/\n<=c/\c<=maxLen/\B<=g/\∀j,j < n->cs[j]?=xs[j]?:=by
 rcases h.2 with ⟨h1,h2⟩|⟨g',cap,cs,h1,hb,hg,hnc,hm,hsz,htk⟩
 · cases h1
 · injection h1 with h1 _ h3;injection h1 with h1;injection h1 with h1 _;subst h1 h3;refine ⟨cs,hg,by omega,hnc,hm,hb,fun j hj=>?_⟩;rw [zBl] at htk;rw [<-htk,List.getElem?_take_of_lt hj,Array.getElem?_toList]
def qS (B:Nat) (v0:Value) (n:Nat) (xs:List Value) (w:World) (e:Ending) (w':World):Prop:=
 ∃A c,e=.returned (.slice A (n+1) c)/\w'.ownsRow B 3 1 (.slice A (n+1) c) (n+1) xs/\Keep (fun b=>v0.ownBlock=some b) w w'/\((Value.slice A (n+1) c).ownBlock=v0.ownBlock∨∃g,(Value.slice A (n+1) c).ownBlock=some g/\w.heap.size<=g)
theorem yB (B:Nat) (A:Option Addr) (n c i:Nat) (ks:List Nat) (gx k:Nat) (w:World) (hown:w.ownsRow B 3 1 (.slice A n c) n (ks.map sv)) (hx:Bk w gx 3 #[sv k]) (hxg:∀b,(Value.slice A n c).ownBlock=some b->b≠gx) (hB:B<=w.heap.size) (hi:i < n) (hn:n<=1000000):
 Calls Tryz.prog 122 #[.slice A n c,.int .i64 (i:Int),.slice (some ⟨gx,0,none⟩) 1 1] w (qS B (.slice A n c) n ((aQ ks i k).map sv) w):=by
 have hl:ks.length=n:=by have:=hown.1;simpa using this
 obtain ⟨g,k1,e1,_,hgl⟩:=World.ownsRow.form hown oM;injection e1 with e1 _ e3;subst e1 e3;obtain ⟨cs,hg,hcs,hnc,hm,hBg,hcell⟩:=rG hown oM;have hne:gx≠g:=fun e=>hxg g rfl e.symm;have hcs0:∀j v,(ks.map sv)[j]?=some v->w.cell? ⟨g,0+j,none⟩=some v:=fun j v hv=>by
  have hj:j < n:=by have:=(zAc.1 hv).1;simpa [hl] using this
  rw [zBi,hg.cell,hcell j hj,hv]
 have hvs0:∀j v, [sv k][j]?=some v->w.cell? ⟨gx,0+j,none⟩=some v:=fun j v hv=>by
  rw [zBi,hx.cell,<-hv];rcases j with _ | j;rfl
  · simp at hv
 have h1c:∀v∈ks.map sv,v.oneCell'=true:=fun v hv=>by obtain ⟨a,_,rfl⟩:=zAy.1 hv;rfl
 have h1v:∀v∈ [sv k],v.oneCell'=true:=fun v hv=>by rw [List.mem_singleton] at hv;subst hv;rfl
 have hins:∀j,j < n+1->((aQ ks i k).map sv)[j]?=if j < i then (ks.map sv)[j]? else if j=i then some (sv k) else (ks.map sv)[j - 1]?:=fun j hj=>by rw [pU,iB _ _ (by rw [zBc];omega)]
 have hil:((aQ ks i k).map sv).length=n+1:=by rw [zBc,eQ _ _ oM,hl]
 by_cases hroom:n+1<=c
 · have hcell':∀j,j < n+1->w.cell? ⟨g,0+j,none⟩=some (cs.getD j (.bool false)):=fun j hj=>by rw [zBi,hg.cell,zAq oM];congr 1;rw [zAm,zAq oM];rfl
   have hcall:=Any2.slices_Insert_int_shift shIns g 0 n c i gx 0 1 1 (ks.map sv) [sv k] w hi dC hroom (by unfold maxLen at hm;omega) hne (by simpa using hl) rfl hcs0 (fun j hj=>by rw [hcell' j hj];rfl) (fun j hj=>by rw [zBi];exact hg.frozen j) hvs0 h1c h1v 3 3 1 cs.size (hx.shape) (hg.shape) oM (hx.frozen 0) (hx.frozen 1);refine hcall.mono ?_;rintro e w' ⟨rfl,rfl⟩;obtain ⟨cs1,p1,p2,p3⟩:=gY g ((ks.map sv).drop i) (0+(i+1)) w.drew _ _ hg.drew;obtain ⟨cs2,q1,q2,q3⟩:=gY g [sv k] (0+i) _ _ _ p1;refine ⟨_,c,rfl,⟨by rw [hil,zBl],.inr ⟨g,c,cs2,rfl,hBg,q1,hroom,hm,by omega,?_⟩⟩,(jV g _ _ w _ (jV g _ _ w _ (Keep.refl _ w).drew)).mono fun b _ e=>by rw [show b=g from e];rfl,.inl rfl⟩;rw [zBl];refine fV hil oM fun j hj=>?_;rw [hins j hj,q3 j oM,p3 j oM];simp only [zCf,List.length_nil,zAw,zBc,hl];by_cases c1:j < i
   · rw [zBw oM,zBw oM,zBx c1,hcell j oM]
   · by_cases c2:j=i
     · subst c2;rw [zBx oM,zBw oM,zBx rfl];simp
     rw [zBw oM,zBx oM,zBw c1,zBw c2,zBt];congr 1;omega
 · have hcall:=Any2.slices_Insert_int_grow shIns g 0 n c i gx 0 1 1 (ks.map sv) [sv k] w hi dC hnc oM oM (by simpa using hl) rfl hcs0 hvs0 h1c h1v;refine hcall.mono ?_;rintro e w' ⟨rfl,rfl⟩;obtain ⟨N,hN⟩:=eqx (grownCap w (n+1) c 3);have hN1:n+1<=N:=(by rw [<-hN];exact grownCap_ge _ _ _ _);have hN2:N<=maxLen:=(by rw [<-hN];exact grownCap_le_maxLen _ _ _ _ (by unfold maxLen;omega));show qS _ _ _ _ _ (.returned (.slice _ _ (grownCap w (n+1) c 3))) _;rw [hN];have hz:∀q,(Builtin.zeroCells (Value.int .i64 0).cells q).size=q:=fun q=>by simp [Builtin.zeroCells,Value.cells]
   obtain ⟨C0,hC0⟩:=eqx (((ks.map sv).take i).toArray++Builtin.zeroCells (Value.int .i64 0).cells (n+1 - i)++Builtin.zeroCells (Value.int .i64 0).cells (N -(n+1)));have hC0s:C0.size=N:=(by rw [<-hC0,Array.size_append,Array.size_append,hz,hz];simp [hl];omega);have hC0g:∀j,j < i->C0[j]?=(ks.map sv)[j]?:=fun j hj=>by have hs:(((ks.map sv).take i).toArray).size=i:=(by simp [hl];omega);rw [<-hC0,Array.append_assoc,Array.getElem?_append_left oM,zCu,List.getElem?_take_of_lt hj]
   have hb0:Bk (w.alloc (.cells C0 3)) w.heap.size 3 C0:=Bk.new _ _ _;have hcs:=hC0;show qS _ _ _ _ _ _ ((((w.alloc (.cells (((ks.map sv).take i).toArray++Builtin.zeroCells (Value.int .i64 0).cells (n+1 - i)++Builtin.zeroCells (Value.int .i64 0).cells (grownCap w (n+1) c 3 -(n+1))) 3)).drew.setCells w.heap.size i [sv k]).drew).setCells w.heap.size (i+1) ((ks.map sv).drop i));rw [hN,hC0];obtain ⟨cs1,p1,p2,p3⟩:=gY w.heap.size [sv k] i _ _ _ hb0.drew;obtain ⟨cs2,q1,q2,q3⟩:=gY w.heap.size ((ks.map sv).drop i) (i+1) _ _ _ p1.drew;refine ⟨_,N,rfl,⟨by rw [hil,zBl],.inr ⟨w.heap.size,N,cs2,rfl,hB,q1,hN1,hN2,by omega,?_⟩⟩,fY _ _ _ w _ nL (fY _ _ _ w _ nL ((Keep.refl _ w).alloc _).drew).drew,.inr ⟨_,rfl,zAs _⟩⟩;rw [zBl];refine fV hil oM fun j hj=>?_;rw [hins j hj,q3 j oM,p3 j oM];simp only [zCf,List.length_nil,zAw,zBc,hl];by_cases c1:j < i
   · rw [zBw oM,zBw oM,zBx c1,hC0g j c1]
   · by_cases c2:j=i
     · subst c2;rw [zBw oM,zBx oM,zBw c1,zBx rfl];simp
     rw [zBx oM,zBw c1,zBw c2,zBt];congr 1;omega
theorem yC (B:Nat) (A:Option Addr) (n c i:Nat) (ks:List Nat) (gx k:Nat) (w:World) (hown:w.ownsRow B 3 1 (.slice A n c) n (ks.map sv)) (hx:Bk w gx 3 #[sv k]) (hxg:∀b,(Value.slice A n c).ownBlock=some b->b≠gx) (hB:B<=w.heap.size) (hi:i<=n) (hn:n<=1000000):
 Calls Tryz.prog 122 #[.slice A n c,.int .i64 (i:Int),.slice (some ⟨gx,0,none⟩) 1 1] w (qS B (.slice A n c) n ((aQ ks i k).map sv) w):=by
 by_cases h:i < n;exact yB B A n c i ks gx k w hown hx hxg hB h hn
 · obtain rfl:i=n:=oM;have hl:ks.length=i:=(by have:=hown.1;simpa using this);have hr:Rd w w.heap.size 1 (some ⟨gx,0,none⟩) 1 [sv k]:=by
    refine ⟨rfl,fun _=>⟨gx,0,rfl,hx.lt,fun j u hu=>?_⟩⟩;rcases j with _ | j;injection hu with hu;subst hu;exact (hx.cell 0).trans rfl
    · simp at hu
   refine (oG B A i c (ks.map sv) (some ⟨gx,0,none⟩) 1 k w hown hr hB hn).mono ?_;rintro e w' ⟨v,rfl,ho,hg,hv⟩;have e1:(aQ ks i k).map sv=ks.map sv++ [sv k]:=(by unfold aQ;rw [zAg oM,List.drop_of_length_le oM,zAz];rfl);obtain ⟨A',c',rfl,_⟩:=aR ho;refine ⟨A',c',rfl,by rw [e1];exact ho,⟨hg.os,hg.tape,hg.output,hg.size,fun b hb hne=>hg.block b hb fun e=>hne e.symm⟩,?_⟩;rcases hv with hv | hv;exact .inl hv;exact .inr ⟨_,hv,zAs _⟩
end Go.Proofs.YtnhmjomhloainaaGreatDoor
