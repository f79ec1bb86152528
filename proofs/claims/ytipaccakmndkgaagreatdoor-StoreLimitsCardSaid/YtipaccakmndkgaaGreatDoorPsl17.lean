/- The walk of perm's has: where in the order the pair of a place stands. No conditions beyond how a Perm lies in memory. The walks of arena's Live and Take (no number is free), of slices.Insert at the end, of perm's New and Add (a row behind all others). Conditions: at most 2^20 numbers. The walk of perm's Add (a row behind all others, a place that has none yet). Conditions: at most 2^20 pairs; no number is free. slices.Insert of one number at any place of an own row; slices.Delete of one. Conditions: at most a million numbers. -/
import Derived.Test.YtipaccakmndkgaaGreatDoorPsl16
import Derived.Test.YtipaccakmndkgaaGreatDoorPsl2
import Derived.Test.YtipaccakmndkgaaGreatDoorShi
import Derived.Sort.OwnSortedInts
set_option linter.unusedVariables false
set_option linter.unusedSimpArgs false
set_option maxRecDepth 100000
set_option maxHeartbeats 4000000
namespace Go.Proofs.YtipaccakmndkgaaGreatDoor
open Go.RowKit Go.Shelf
open Go.Sort (Holds)
def firstI (p:Nat→Bool):List Nat→Nat→Int
 | [],_=>-1
 | k::l,i=>if p k then (i:Int) else firstI p l (i+1)
theorem firstI_none {p:Nat→Bool} {l:List Nat} (h:∀k∈l,p k=false) (i:Nat):firstI p l i=-1:=by
 induction l generalizing i with
 | nil=>rfl
 | cons k l ih=>
   unfold firstI
   rw [if_neg (by rw [h k (by simp)];simp)]
   exact ih (fun k hk=>h k (by simp [hk])) _
theorem firstI_some {p:Nat→Bool} {l:List Nat} (h:∃k∈l,p k=true) (i:Nat):∃(j k:Nat),firstI p l i=((i+j:Nat):Int)∧l[j]?=some k∧p k=true:=by
 induction l generalizing i with
 | nil=>obtain ⟨k,hk,_⟩:=h;cases hk
 | cons x l ih=>
   unfold firstI
   by_cases hx:p x=true
   · rw [if_pos hx]
     exact ⟨0,x,rfl,rfl,hx⟩
   · rw [if_neg hx]
     obtain ⟨k,hk,hp⟩:=h
     have hk':k∈l:=by
        rcases List.mem_cons.1 hk with rfl | h
        · exact absurd hp hx
        · exact h
     obtain ⟨j,k',h1,h2,h3⟩:=ih ⟨k,hk',hp⟩ (i+1)
     exact ⟨j+1,k',by rw [h1];congr 1;omega,by simpa using h2,h3⟩
theorem idx_first {c:Nat} {ks:List Nat} (h:∀k∈ks,k < c+1) (p:Nat→Bool) (d:Fin (c+1)) (i:Nat):Lib.idxByFrom (fun (_ y:Fin (c+1))=>p y.val) d ((ks.map fun k=>(⟨k %(c+1),Nat.mod_lt _ (Nat.succ_pos c)⟩:Fin (c+1)))) i=firstI p ks i:=by
 induction ks generalizing i with
 | nil=>rfl
 | cons k l ih=>
   rw [List.map_cons]
   unfold Lib.idxByFrom firstI
   simp only [Nat.mod_eq_of_lt (h k (by simp))]
   rw [ih (fun k hk=>h k (by simp [hk]))]
theorem PermHas_any (B gp ga:Nat) (vl vo vt vf:Value) (R P:Nat) (ks:List Nat) (C:List (Nat×Nat)) (tk:List Bool) (fr:List Nat) (pos:Nat) (w:World) (h:PermAt w B gp ga vl vo vt vf R P ks C tk fr) (hk:ks.length≤1099511627776):
 Calls Tryz.prog 121 #[.pointer (some ⟨gp,0,none⟩),.int .i64 (pos:Int)] w fun e w'=>e=.returned (.int .i64 (firstI (fun k=>decide (posK C k=pos)) ks 0))∧Below w.heap.size w w':=by
 have hgp:=h.blk.lt
 have c2:w.cell? ⟨gp,2,none⟩=some vo:=(h.blk.cell 2).trans rfl
 obtain ⟨W,hW⟩:∃W,W=(w.alloc (.cells #[.pointer (some ⟨gp,0,none⟩)] 85)).alloc (.cells #[.int .i64 (pos:Int)] 3):=⟨_,rfl⟩
 have hbx:Below w.heap.size w W:=hW ▸((Below.refl _ _).alloc (Nat.le_refl _) _).alloc (by simp) _
 have hbk1:Bk W w.heap.size 85 #[.pointer (some ⟨gp,0,none⟩)]:=hW ▸(Bk.new _ _ _).alloc _
 have hbk2:Bk W (w.heap.size+1) 3 #[.int .i64 (pos:Int)]:=by
  have:=Bk.new (w.alloc (.cells #[.pointer (some ⟨gp,0,none⟩)] 85)) 3 #[.int .i64 (pos:Int)]
  rw [←hW] at this
  simpa using this
 have hcall:∀A n c,vo=.slice A n c→Calls Tryz.prog 186 #[.slice A n c,.func (.func 187) #[] #[.pointer (some ⟨w.heap.size,0,none⟩),.pointer (some ⟨w.heap.size+1,0,none⟩)]] W fun e w'=>e=.returned (.int .i64 (firstI (fun k=>decide (posK C k=pos)) ks 0))∧Below w.heap.size w w':=by
  intro A n c ev
  rcases Nat.eq_zero_or_pos ks.length with h0 | h0
  · have hke:ks= []:=List.eq_nil_of_length_eq_zero h0
    obtain ⟨A9,c9,e9,_⟩:=own_shape h.orow
    rw [ev] at e9
    injection e9 with _ e9 _
    rw [h0] at e9
    subst e9
    subst hke
    refine (AnyE.slices_IndexFunc_empty shIdx A c (.func (.func 187) #[] #[.pointer (some ⟨w.heap.size,0,none⟩),.pointer (some ⟨w.heap.size+1,0,none⟩)]) _).mono ?_
    rintro e w' ⟨rfl,rfl⟩
    exact ⟨rfl,hbx⟩
  · rcases h.orow.2 with ⟨_,e⟩|⟨g,cap,cs,e,hBg,hg,hn,hm,hz,ht⟩
    · omega
    · rw [ev] at e
      injection e with e1 e2 e3
      subst e1 e2 e3
      rw [Nat.mul_one] at ht
      obtain ⟨k0,hk0⟩:∃k,k∈ks:=by
       obtain ⟨x,hx⟩:=List.exists_mem_of_length_pos h0
       exact ⟨x,hx⟩
      obtain ⟨cc,hcc⟩:∃cc,C.length=cc+1:=⟨C.length - 1,by have:=h.lt k0 hk0;omega⟩
      have hlt':∀k∈ks,k < cc+1:=fun k hk=>by rw [←hcc];exact h.lt k hk
      have hgb:Bk w g 3 cs:=hg
      have hgA:=hgb.below hbx hgb.lt
      have hH:=ordA_holds hgA hlt' ht
      have hp:PredAt Tryz.prog 187 #[.pointer (some ⟨w.heap.size,0,none⟩),.pointer (some ⟨w.heap.size+1,0,none⟩)] (encF cc) (fun x=>decide (posK C x.val=pos)) W:=by
       intro W' x hb'
       have hb1:=hbk1.below hb' hbk1.lt
       have hb2:=hbk2.below hb' hbk2.lt
       obtain ⟨A,n,c,e,hp⟩:=h.prd (w':=W') (hb1.cell 0) (hbx.trans (hb'.mono hbx.size))
       exact PermHas1_any w.heap.size (w.heap.size+1) gp A n c C x.val pos W' hp (hb2.cell 0) (by rw [hcc];exact x.isLt)
      have hz9:ks.length=(ks.map fun k=>(⟨k %(cc+1),Nat.mod_lt _ (Nat.succ_pos cc)⟩:Fin (cc+1))).length:=by simp
      have hI:=AnyE.slices_IndexFunc shIdx (encF cc) (fun x=>decide (posK C x.val=pos)) 187 #[.pointer (some ⟨w.heap.size,0,none⟩),.pointer (some ⟨w.heap.size+1,0,none⟩)] (enters_of Tryz.func187 (by kernel_rfl) rfl) g 0 ks.length c (ks.map fun k=>(⟨k %(cc+1),Nat.mod_lt _ (Nat.succ_pos cc)⟩:Fin (cc+1))) W hp (by simp) (by omega) (fun j hj=>by
       have h1:=(hH j (by simpa [ordA] using hj)).1
       simpa [ordA] using h1)
      rw [List.take_of_length_le (by simp),Lib.idxBy,idx_first hlt' (fun k=>decide (posK C k=pos))] at hI
      refine hI.mono ?_
      rintro e w' ⟨rfl,q,rfl⟩
      exact ⟨rfl,hbx.os,hbx.tape,hbx.output,hbx.size,hbx.block⟩
 obtain ⟨A,c,e,_⟩:=own_shape h.orow
 have hc:=hcall _ _ _ e
 rw [e] at c2
 obtain ⟨i,hi⟩:∃i,firstI (fun k=>decide (posK C k=pos)) ks 0=i:=⟨_,rfl⟩
 rw [hi] at hc
 rw [hi]
 subst hW
 clear hcall h hi hbx e hbk1 hbk2
 go_enter Tryz.func121,Tryz.ntmps121
 go_wp2_with fail
 refine hc.mono ?_
 rintro e w' ⟨rfl,hb⟩
 go_wp2_with fail
 go_ret
 exact ⟨rfl,hb⟩
end Go.Proofs.YtipaccakmndkgaaGreatDoor
namespace Go.Proofs.YtipaccakmndkgaaGreatDoor
open Go.RowKit
theorem ArenaLive_any (ga:Nat) (A:Option Addr) (c:Nat) (Af:Option Addr) (cf N M:Nat) (w:World) (hb:Bk w ga 217 #[.slice A N c,.slice Af M cf,.int .i64 268435456]) (hN:N≤1048576) (hM:M≤N):
 Calls Tryz.prog 188 #[.pointer (some ⟨ga,0,none⟩)] w fun e w'=>e=.returned (.int .i64 ((N - M:Nat):Int))∧Below w.heap.size w w':=by
 have c0:w.cell? ⟨ga,0,none⟩=some (.slice A N c):=(hb.cell 0).trans rfl
 have c1:w.cell? ⟨ga,1,none⟩=some (.slice Af M cf):=(hb.cell 1).trans rfl
 have h64:IntKind.i64.wrap ((N:Int) -(M:Int))=((N - M:Nat):Int):=by rw [IntKind.wrap_i64];omega
 clear hb
 go_enter Tryz.func188,Tryz.ntmps188
 go_wp2
 go_quiet (fail)
 go_wp2
 go_ret
 exact ⟨ret_i64 (by omega),below_drewN (Below.refl _ _) _⟩
theorem TakeMore_any (B ga:Nat) (A:Option Addr) (c:Nat) (Af:Option Addr) (cf N:Nat) (tk:List Bool) (w:World) (hb:Bk w ga 217 #[.slice A N c,.slice Af 0 cf,.int .i64 268435456]) (hown:w.ownsRow B 4 1 (.slice A N c) N (tk.map Value.bool)) (hB:B≤w.heap.size) (hN:N≤1000000):
 Calls Tryz.prog 122 #[.pointer (some ⟨ga,0,none⟩)] w fun e w'=>e=.returned (.tuple #[.int .i64 (N:Int),.int .i64 0])∧Keep (fun b=>b=ga∨(Value.slice A N c).ownBlock=some b) w w'∧∃vt,Bk w' ga 217 #[vt,.slice Af 0 cf,.int .i64 268435456]∧w'.ownsRow B 4 1 vt (N+1) ((tk++ [true]).map Value.bool)∧(vt.ownBlock=(Value.slice A N c).ownBlock∨∃g,vt.ownBlock=some g∧w.heap.size≤g):=by
 obtain ⟨i0,hi0,hz0,hz1,hz2⟩:=info_parts bool_info
 have hgl:=hb.lt
 have Hb:=lhd hb
 have Hown:=lhd hown
 have Hne:=lhd (own_bk_ne hown hb (by decide))
 clear hb hown
 go_enter Tryz.func122,Tryz.ntmps122
 go_wp2
 refine wp_region_any (by kernel_rfl) ?_
 refine wpAny_loose2 [10,11,12,13,14,15,16,9] (Grow) (Vs [is (.pointer (some ⟨ga,0,none⟩)),is (.int .i64 (N:Int)),is (.pointer (some ⟨ga,0,none⟩)),is (.pointer (some ⟨ga,0,none⟩)),is (.pointer (some ⟨ga,2,none⟩)),is (.int .i64 268435456),is (.bool false),is (.bool false)]) _ _ rfl (by kernel_rfl) (Below.refl _ _) (fun _ _=>Grow.trans) (stbs_all (by repeat' (first | exact stbs_is _ _ | exact stbs_any _ |(refine List.forall_mem_cons.2 ⟨?_,?_⟩)|(intro p hp;cases hp)))) ?_ ?_
 · refine steps_of ?_
   refine steps_cons (step_on rfl rfl fun ev _ _ _ _ hold _ _ _ _ hK=>?_) ?_
   · have e0:ev (.tmp 0)=.pointer (some ⟨ga,0,none⟩):=hold 0 (by kernel_rfl)
     go_simp
     exact hK _ _ ((Below.refl _ _)) rfl
   refine steps_cons (step_on rfl rfl fun _ w5 hS _ _ _ hval _ _ _ hK=>?_) ?_
   · have e10:_=_:=hval 0 10 (by kernel_rfl) rfl
     replace hS:(Grow) w w5:=⟨hS.os,hS.tape,hS.output,hS.size,hS.block⟩
     go_simp
     refine (ArenaLive_any ga A c Af cf N 0 w5 (Hb.out.below hS Hb.out.lt) (by omega) (by omega)).mono ?_
     rintro e w8 ⟨rfl,hb8⟩
     exact hK _ _ hb8 rfl
   refine steps_cons (step_on rfl rfl fun ev _ _ _ _ hold _ _ _ _ hK=>?_) ?_
   · have e0:ev (.tmp 0)=.pointer (some ⟨ga,0,none⟩):=hold 0 (by kernel_rfl)
     go_simp
     exact hK _ _ ((Below.refl _ _)) rfl
   refine steps_cons (step_on rfl rfl fun _ _ _ _ _ _ hval _ _ _ hK=>?_) ?_
   · have e12:_=_:=hval 2 12 (by kernel_rfl) rfl
     go_simp
     exact hK _ _ ((Below.refl _ _)) rfl
   refine steps_cons (step_on rfl rfl fun _ _ _ _ _ _ hval _ _ _ hK=>?_) ?_
   · have e13:_=_:=hval 3 13 (by kernel_rfl) rfl
     go_simp
     exact hK _ _ ((Below.refl _ _)) rfl
   refine steps_cons (step_on rfl rfl fun _ w5 hS _ _ _ hval _ _ _ hK=>?_) ?_
   · have e14:_=_:=hval 4 14 (by kernel_rfl) rfl
     replace hS:(Grow) w w5:=⟨hS.os,hS.tape,hS.output,hS.size,hS.block⟩
     have c15:w5.cell? ⟨ga,2,none⟩=some (.int .i64 268435456):=((Hb.out.below hS Hb.out.lt).cell 2).trans rfl
     go_simp
     exact hK _ _ ((Below.refl _ _)) rfl
   refine steps_cons (step_on rfl rfl fun _ _ _ _ _ _ hval _ _ _ hK=>?_) ?_
   · have e11:_=_:=hval 1 11 (by kernel_rfl) rfl
     have e15:_=_:=hval 5 15 (by kernel_rfl) rfl
     have hne:((N:Int)==268435456)=false:=by simp;omega
     go_simp
     exact hK _ _ (Below.refl _ _) (by first | rfl | simp [is] |(simp [is];omega))
   refine steps_cons (step_on rfl rfl fun _ _ _ _ _ _ hval _ _ _ hK=>?_) ?_
   · have e16:_=_:=hval 6 16 (by kernel_rfl) rfl
     go_simp
     exact hK _ _ ((Below.refl _ _)) rfl
   exact steps_nil
 · intro ev w6 hS hval
   replace hS:(Grow) w w6:=⟨hS.os,hS.tape,hS.output,hS.size,hS.block⟩
   have e9:ev (.tmp 9)=.bool false:=hval 7 9 rfl
   simp only [putsOf,List.foldl_cons,List.foldl_nil,Act.put,List.setIfInBounds_toArray,List.set_cons_zero,List.set_cons_succ]
   rw [e9]
   clear hval
   have hb2:=Hb.out.below hS Hb.out.lt
   have hsz2:=Below.size hS
   have hown2:=own_below Hown.out hS
   have c1:w6.cell? ⟨ga,1,none⟩=some (.slice Af 0 cf):=(hb2.cell 1).trans rfl
   have c0:w6.cell? ⟨ga,0,none⟩=some (.slice A N c):=(hb2.cell 0).trans rfl
   have f0:=hb2.frozen 0
   have hga6:ga < w6.heap.size:=by omega
   have HS2:=lhd hS
   have Hb2:=lhd hb2
   have Hown2:=lhd hown2
   clear hS hb2 hown2
   generalize w6=W2 at Hb2 hsz2 c0 c1 f0 HS2 hga6 Hown2⊢
   have a0:=(World.cell?_alloc_lt W2 (Obj.cells #[.bool true] 4) ⟨ga,0,none⟩ hga6).trans c0
   go_wp2_with (at_builtin;refine wpList_push _ rfl (.tmp 53) (.tmp 54) _ rfl B 4 i0 (.bool false) 1 1 Tryz.underlying209 hi0 hz0 hz1 hz2 rfl (by decide) (.slice A N c) N _ rfl Hown2.out rfl rfl (by simp [Value.oneCell']) (by unfold maxLen;omega) (by omega) (by omega) ?_;intro v5 w5 hown5 hg5 hs5 hat5;have hbk5:=Hb2.out.grown hg5 Hne.out;have Hown5:=lhd hown5;have Hg5:=lhd hg5;have Hat5:=lhd hat5;have Hbk5:=lhd hbk5;have d0:w5.cell? ⟨ga,0,none⟩=some (.slice A N c):=(hbk5.cell 0).trans rfl;have g0:=hbk5.frozen 0;obtain ⟨A9,c9,rfl,hm9⟩:=made_of_own hown5;clear hown5 hg5 hat5 hbk5 hm9)
   go_ret2
   have hset:=Keep.setCell (F:=fun b=>b=ga∨(Value.slice A N c).ownBlock=some b) (Keep.refl _ w5) (p:=⟨ga,0,none⟩) (.inl (.inl rfl)) (.slice A9 (N+1) c9)
   have hk2:Keep (fun b=>b=ga∨(Value.slice A N c).ownBlock=some b) w W2:=Keep.of_below HS2.out
   have hk5:=hk2.grown Hg5.out (fun k hk=>.inl (.inr hk))
   refine ⟨rfl,hk5.trans' hset (fun b _ h=>h),_,Hbk5.out.set 0 _,?_,?_⟩
   · have:=own_same (w':=w5.setCell ⟨ga,0,none⟩ (.slice A9 (N+1) c9)) Hown5.out fun b cs _ hb'=>hb'.far (Bk.ne hb' Hbk5.out (by decide)) _
     simpa using this
   · rcases Hat5.out with h | h
     · exact .inl h
     · exact .inr ⟨_,h,by have:=HS2.out.size;omega⟩
theorem InsertEnd_any (B:Nat) (A:Option Addr) (n c:Nat) (xs:List Value) (Av:Option Addr) (cv k:Nat) (w:World) (hown:w.ownsRow B 3 1 (.slice A n c) n xs) (hr:Rd w w.heap.size 1 Av 1 [sv k]) (hB:B≤w.heap.size) (hn:n≤1000000):
 Calls Tryz.prog 123 #[.slice A n c,.int .i64 (n:Int),.slice Av 1 cv] w fun e w'=>∃v,e=.returned v∧w'.ownsRow B 3 1 v (n+1) (xs++ [sv k])∧w.grownBy w' (Value.slice A n c).ownBlock∧(v.ownBlock=(Value.slice A n c).ownBlock∨v.ownBlock=some w.heap.size):=by
 obtain ⟨i0,hi0,hz0,hz1,hz2⟩:=info_parts int_info
 have kc:=run_cut_lo (P:=Tryz.prog) 22 3 1 Tryz.underlying22 Tryz.sizeOf3 A n c n (Nat.le_refl _)
 have Hown:=lhd hown
 have Hr:=lhd hr
 clear hown hr
 go_enter Tryz.func123,Tryz.ntmps123
 go_wp2_with (at_builtin;refine wpList_append_rd _ rfl (.tmp 23) (.tmp 24) _ rfl B 3 i0 (.int .i64 0) 1 8 Tryz.underlying22 hi0 hz0 hz1 hz2 rfl (by decide) (.slice A n c) n _ rfl Hown.out w.heap.size Av 1 cv _ rfl Hr.out (by simp [Value.oneCell',sv]) (by unfold maxLen;omega) (by omega) hB ?_;intro v5 w5 hown5 hg5 hat5)
 go_ret
 exact ⟨v5,rfl,hown5,hg5,hat5⟩
theorem pair_info:(Tryz.prog.info? 159).map (fun i=>(i.zero,i.size,i.bytes))=some (some (.agg #[.int .i64 0,.int .i64 0]),2,16):=by kernel_rfl
def PF (gp ga:Nat) (vl vo vt:Value) (b:Nat):Prop:=b=gp∨b=ga∨vl.ownBlock=some b∨vo.ownBlock=some b∨vt.ownBlock=some b
theorem pairsL_snoc (C:List (Nat×Nat)) (x:Nat×Nat):pairsL (C++ [x])=pairsL C++pairV x:=by simp [pairsL]
theorem PermAt.below {w w':World} {B gp ga:Nat} {vl vo vt vf:Value} {R P:Nat} {ks:List Nat} {C:List (Nat×Nat)} {tk:List Bool} {fr:List Nat} (h:PermAt w B gp ga vl vo vt vf R P ks C tk fr) (k:Below w.heap.size w w'):PermAt w' B gp ga vl vo vt vf R P ks C tk fr:=
 ⟨h.blk.below k h.blk.lt,own_below h.lrow k,own_below h.orow k,h.ar.below k h.ar.lt,own_below h.trow k,own_below h.frow k,h.apart,h.lt,h.lo⟩
theorem own_keepT {F:Nat→Prop} {w w':World} {B:Nat} {e:TypeId} {sz n:Nat} {v:Value} {xs:List Value} (h:w.ownsRow B e sz v n xs) (k:Keep F w w') (hf:∀b cs,F b→Bk w b e cs→False):w'.ownsRow B e sz v n xs:=
 own_same h fun b cs _ hb=>k.bk hb (fun f=>hf b cs f hb)
theorem own_pair {w:World} {B g cap:Nat} {C:List (Nat×Nat)} {y:Nat×Nat} (h:w.ownsRow B 159 2 (.slice (some ⟨g,0,none⟩) (C.length+1) cap) (C.length+1) (pairsL (C++ [y]))) (x:Nat×Nat):
 ((w.setCell ⟨g,C.length*2,none⟩ (.int .i64 (x.1:Int))).setCell ⟨g,C.length*2+1,none⟩ (.int .i64 (x.2:Int))).ownsRow B 159 2 (.slice (some ⟨g,0,none⟩) (C.length+1) cap) (C.length+1) (pairsL (C++ [x])):=by
 rcases h.2 with ⟨h1,_⟩|⟨g',cap',cur,h1,h2,h3,h4,h5,h6,h7⟩
 · cases h1
 · injection h1 with h8 h9 h10
   injection h8 with h8
   injection h8 with h8 _
   subst h8 h10
   have hb:Bk w g 159 cur:=h3
   have hb2:=(hb.set (C.length*2) (.int .i64 (x.1:Int))).set (C.length*2+1) (.int .i64 (x.2:Int))
   refine ⟨by rw [pairsL_len];simp,.inr ⟨g,cap,_,rfl,h2,hb2,h4,h5,by simpa using h6,?_⟩⟩
   rw [pairsL_snoc] at h7⊢
   have hl:=pairsL_len C
   apply List.ext_getElem?
   intro i
   have hi:=congrArg (fun l=>l[i]?) h7
   simp only [List.getElem?_take,Array.getElem?_toList] at hi
   rw [List.getElem?_take,Array.getElem?_toList,Array.getElem?_setIfInBounds,Array.getElem?_setIfInBounds]
   by_cases c1:i < C.length*2
   · rw [if_pos (by omega)] at hi⊢
     rw [if_neg (by omega),if_neg (by omega),hi,List.getElem?_append_left (by omega),List.getElem?_append_left (by omega)]
   · by_cases c2:i=C.length*2
     · subst c2
       rw [if_pos (by omega),if_neg (by omega),if_pos rfl,if_pos (by omega),List.getElem?_append_right (by omega),hl,Nat.sub_self]
       rfl
     · by_cases c3:i=C.length*2+1
       · subst c3
         rw [if_pos (by omega),if_pos rfl,if_pos (by simp;omega),List.getElem?_append_right (by omega),hl,show C.length*2+1 - C.length*2=1 by omega]
         rfl
       · rw [if_neg (by omega),List.getElem?_eq_none (by simp [pairV];omega)]
theorem PermAdd_any (B gp ga:Nat) (vl vo vt:Value) (R P:Nat) (ks:List Nat) (C:List (Nat×Nat)) (tk:List Bool) (row pos:Nat) (w:World) (h:PermAt w B gp ga vl vo vt (.slice none 0 0) R P ks C tk []) (hs:ks.Pairwise (fun a b=>rowK C a < rowK C b))
 (hr:∀k∈ks,rowK C k < row) (hp:∀k∈ks,posK C k≠pos) (hR:row < R) (hP:pos < P) (ht:tk.length=C.length) (hC:C.length≤900000) (hk:ks.length≤900000) (hB:B≤w.heap.size):
 Calls Tryz.prog 51 #[.pointer (some ⟨gp,0,none⟩),.int .i64 (row:Int),.int .i64 (pos:Int)] w fun e w'=>e=.returned (.int .i64 0)∧Keep (PF gp ga vl vo vt) w w'∧∃vl' vo' vt',PermAt w' B gp ga vl' vo' vt' (.slice none 0 0) R P (ks++ [C.length]) (C++ [(row,pos)]) (tk++ [true]) []∧(vo'.ownBlock=vo.ownBlock∨∃g,vo'.ownBlock=some g∧w.heap.size≤g)∧(vl'.ownBlock=vl.ownBlock∨∃g,vl'.ownBlock=some g∧w.heap.size≤g)∧(vt'.ownBlock=vt.ownBlock∨∃g,vt'.ownBlock=some g∧w.heap.size≤g):=by
 obtain ⟨i0,hi0,hz0,hz1,hz2⟩:=info_parts pair_info
 have hcnt:ks.countP (fun k=>decide (rowK C k < row))=ks.length:=List.countP_eq_length.2 fun k hk=>by simpa using hr k hk
 have hfnd:decide (∃k∈ks,rowK C k=row)=false:=by
  rw [decide_eq_false_iff_not]
  rintro ⟨k,hk,e⟩
  have:=hr k hk
  omega
 have hhas:firstI (fun k=>decide (posK C k=pos)) ks 0=-1:=firstI_none (fun k hk=>by simpa using hp k hk) 0
 have c3:w.cell? ⟨gp,3,none⟩=some (.int .i64 (R:Int)):=(h.blk.cell 3).trans rfl
 have c4:w.cell? ⟨gp,4,none⟩=some (.int .i64 (P:Int)):=(h.blk.cell 4).trans rfl
 have hat:=PermAt_any B gp ga vl vo vt (.slice none 0 0) R P ks C tk [] row w h hs (by omega)
 rw [hcnt,hfnd] at hat
 have hhs:=fun W hW=>PermHas_any B gp ga vl vo vt (.slice none 0 0) R P ks C tk [] pos W hW (by omega)
 simp only [hhas] at hhs
 obtain ⟨n,hn⟩:∃n,ks.length=n:=⟨_,rfl⟩
 obtain ⟨N,hN⟩:∃n,C.length=n:=⟨_,rfl⟩
 rw [hn] at hat
 have Hhs:=lhd hhs
 have H:=lhd h
 have Hn:=lhd hn
 have HN:=lhd hN
 have Ht:=lhd ht
 have hN9:N≤900000:=by omega
 have hn9:n≤900000:=by omega
 have HB:=lhd hB
 clear hcnt hfnd hhas hhs hs hr hp h hn hN ht hC hk hB
 go_enter Tryz.func51,Tryz.ntmps51
 go_wp2_with fail
 refine hat.mono ?_
 clear hat
 rintro e w1 ⟨rfl,hb1⟩
 have h1:=H.out.below hb1
 have H1:=lhd h1
 have Hb1:=lhd hb1
 clear h1 hb1 c3 c4
 go_wp2_with fail
 refine (Hhs.out w1 H1.out).mono ?_
 rintro e w2 ⟨rfl,hb2⟩
 have h2:=H1.out.below hb2
 have hb12:=Hb1.out.trans (hb2.mono Hb1.out.size)
 have c0:w2.cell? ⟨gp,0,none⟩=some (.pointer (some ⟨ga,0,none⟩)):=(h2.blk.cell 0).trans rfl
 have H2:=lhd h2
 have Hb2:=lhd hb12
 clear h2 hb12 hb2 H1 Hb1 Hhs
 go_wp2_with fail
 obtain ⟨At,ct,hvt,_⟩:=own_shape H2.out.trow
 have htk:tk.length=N:=by rw [Ht.out,HN.out]
 have hT:=TakeMore_any B ga At ct none 0 N tk w2 (by have:=H2.out.ar;rw [hvt,htk] at this;exact this) (by have:=H2.out.trow;rw [hvt,htk] at this;exact this) (by have:=HB.out;have:=Hb2.out.size;omega) (by omega)
 have hvt':vt=.slice At N ct:=by rw [hvt,htk]
 rw [←hvt'] at hT
 refine hT.mono ?_
 clear hT hvt hvt' htk
 rintro e w3 ⟨rfl,hk3,vt',hbk3,hown3,hfr3⟩
 have hgp3:=hk3.bk H2.out.blk (fun f=>by
  rcases f with f | f
  · exact Bk.ne H2.out.blk H2.out.ar (by decide) f
  · exact own_bk_ne H2.out.trow H2.out.blk (by decide) f.symm)
 have hvl3:=own_keepT H2.out.lrow hk3 (fun b cs f hb=>by
  rcases f with f | f
  · subst f;exact Bk.ne hb H2.out.ar (by decide) rfl
  · exact own_bk_ne H2.out.trow hb (by decide) f.symm)
 have hvo3:=own_keepT H2.out.orow hk3 (fun b cs f hb=>by
  rcases f with f | f
  · subst f;exact Bk.ne hb H2.out.ar (by decide) rfl
  · exact own_bk_ne H2.out.trow hb (by decide) f.symm)
 obtain ⟨Al,cl,hvl,_⟩:=own_shape hvl3
 have hvl':vl=.slice Al N cl:=by rw [hvl,HN.out]
 have d1:w3.cell? ⟨gp,1,none⟩=some vl:=(hgp3.cell 1).trans rfl
 have fp:=hgp3.frozen 1
 rw [hvl'] at d1
 have hgp3l:=hgp3.lt
 rw [HN.out] at hvl3
 have hB3:B≤w3.heap.size:=by have:=hk3.size;have:=HB.out;have:=Hb2.out.size;omega
 have Hk3:=lhd hk3
 have Hbk3:=lhd hbk3
 have Hown3:=lhd hown3
 have Hfr3:=lhd hfr3
 have Hgp3:=lhd hgp3
 have Hvl3:=lhd hvl3
 have Hvo3:=lhd hvo3
 have Hvl:=lhd hvl'
 have e1:=(World.cell?_alloc_lt w3 (Obj.cells #[.int .i64 0,.int .i64 0] 159) ⟨gp,1,none⟩ hgp3l).trans d1
 clear hk3 hbk3 hown3 hfr3 hgp3 hvl3 hvo3 hvl hvl' c0
 go_wp2_with fail
 refine wp_loop_rounds 2 ?_
 rw [rounds_succ]
 go_wp2_with (at_builtin;refine wpList_push _ rfl (.tmp 72) (.tmp 74) _ rfl B 159 i0 (.agg #[.int .i64 0,.int .i64 0]) 2 16 Tryz.underlying131 hi0 hz0 hz1 hz2 rfl (by decide) vl N _ Hvl.out.symm Hvl3.out rfl rfl (by simp [Value.oneCell']) (by unfold maxLen;omega) (by omega) hB3 ?_;intro v5 w5 hown5 hg5 hs5 hat5;have hbk5:=Hgp3.out.grown hg5 (own_bk_ne Hvl3.out Hgp3.out (by decide));have d5:w5.cell? ⟨gp,1,none⟩=some vl:=(hbk5.cell 1).trans rfl;have f5:=hbk5.frozen 1;rw [Hvl.out] at d5;obtain ⟨A9,c9,rfl,hm9⟩:=made_of_own hown5;have Hbk5:=lhd hbk5;have Hown5:=lhd hown5;have Hg5:=lhd hg5;have Hat5:=lhd hat5;clear hm9 hown5 hg5 hat5 hbk5)
 obtain ⟨g9,cur9,rfl,hg9,hb9,hcz9⟩:∃g9,∃cur:Array Value,A9=some ⟨g9,0,none⟩∧B≤g9∧Bk w5 g9 159 cur∧N*2+1 < cur.size:=by
  rcases Hown5.out.2 with ⟨h1,h2⟩|⟨g,cap,cur,h1,h2,h3,h4,h5,h6,h7⟩
  · omega
  · injection h1 with h1 _ _
    exact ⟨g,cur,h1,h2,h3,by omega⟩
 have hgpn:gp≠g9:=Bk.ne Hbk5.out hb9 (by decide)
 have hgp6:=Hbk5.out.set 1 (.slice (some ⟨g9,0,none⟩) (N+1) c9)
 have hb96:=hb9.far (p:=⟨gp,1,none⟩) (fun e=>hgpn e.symm) (.slice (some ⟨g9,0,none⟩) (N+1) c9)
 have hk6:Keep (PF gp ga vl vo vt) w2 (w5.setCell ⟨gp,1,none⟩ (.slice (some ⟨g9,0,none⟩) (N+1) c9)):=
  ((Hk3.out.mono (G:=PF gp ga vl vo vt) (fun b _ f=>by rcases f with f | f;exact .inr (.inl f);exact .inr (.inr (.inr (.inr f))))).grown Hg5.out (fun k hk=>.inl (.inr (.inr (.inl hk))))).setCell (.inl (.inl rfl)) _
 have hvl6:=own_same (w':=w5.setCell ⟨gp,1,none⟩ (.slice (some ⟨g9,0,none⟩) (N+1) c9)) Hown5.out fun b cs _ hb=>hb.far (p:=⟨gp,1,none⟩) (Bk.ne hb Hbk5.out (by decide)) _
 have hvo5:=own_same (w':=w5) Hvo3.out fun b cs _ hb=>hb.grown Hg5.out (own_bk_ne Hvl3.out hb (by decide))
 have hvo6:=own_same (w':=w5.setCell ⟨gp,1,none⟩ (.slice (some ⟨g9,0,none⟩) (N+1) c9)) hvo5 fun b cs _ hb=>hb.far (p:=⟨gp,1,none⟩) (Bk.ne hb Hbk5.out (by decide)) _
 have hga5:=Hbk3.out.grown Hg5.out (own_bk_ne Hvl3.out Hbk3.out (by decide))
 have hga6:=hga5.far (p:=⟨gp,1,none⟩) (Bk.ne hga5 Hbk5.out (by decide)) (.slice (some ⟨g9,0,none⟩) (N+1) c9)
 have hvt5:=own_same (w':=w5) Hown3.out fun b cs _ hb=>hb.grown Hg5.out (own_bk_ne Hvl3.out hb (by decide))
 have hvt6:=own_same (w':=w5.setCell ⟨gp,1,none⟩ (.slice (some ⟨g9,0,none⟩) (N+1) c9)) hvt5 fun b cs _ hb=>hb.far (p:=⟨gp,1,none⟩) (Bk.ne hb Hbk5.out (by decide)) _
 have hfr6:(Value.slice (some ⟨g9,0,none⟩) (N+1) c9).ownBlock=vl.ownBlock∨∃g,(Value.slice (some ⟨g9,0,none⟩) (N+1) c9).ownBlock=some g∧w2.heap.size≤g:=by
  rcases Hat5.out with f | f
  · exact .inl f
  · exact .inr ⟨_,f,by have:=Hk3.out.size;omega⟩
 clear Hk3 Hbk3 Hown3 Hgp3 Hvl3 Hvo3 Hbk5 Hown5 Hg5 Hat5 d1 fp e1 f5 d5 hvo5 hga5 hvt5
 generalize w5.setCell ⟨gp,1,none⟩ (.slice (some ⟨g9,0,none⟩) (N+1) c9)=w6 at hgp6 hb96 hk6 hvl6 hvo6 hga6 hvt6⊢
 have d1:w6.cell? ⟨gp,1,none⟩=some (.slice (some ⟨g9,0,none⟩) (N+1) c9):=(hgp6.cell 1).trans rfl
 have x0:=hb96.cell (N*2)
 have x1:=hb96.cell (N*2+1)
 rw [Array.getElem?_eq_getElem (by omega)] at x0 x1
 have y0:=hb96.frozen (N*2)
 have y1:=hb96.frozen (N*2+1)
 generalize cur9[N*2]'(by omega)=u0 at x0
 generalize cur9[N*2+1]'(by omega)=u1 at x1
 have Hgp6:=lhd hgp6
 have Hb96:=lhd hb96
 have Hk6:=lhd hk6
 have Hvl6:=lhd hvl6
 have Hvo6:=lhd hvo6
 have Hga6:=lhd hga6
 have Hvt6:=lhd hvt6
 have Hfr6:=lhd hfr6
 have hlt1:decide (N+1≤N)=false:=by simp
 have hlt2:decide ((N:Int)+1≤(N:Int))=false:=by simp;omega
 have d2:w6.cell? ⟨gp,2,none⟩=some vo:=(hgp6.cell 2).trans rfl
 obtain ⟨Ao,co,hvo,_⟩:=own_shape hvo6
 have hvo':vo=.slice Ao n co:=by rw [hvo,Hn.out]
 have Hvo:=lhd hvo'
 rw [hvo'] at d2
 clear hgp6 hb96 hk6 hvl6 hvo6 hga6 hvt6 hfr6 hvo hvo' hb9 hcz9
 rw [rounds_succ]
 go_wp2_with fail
 have hvl7:=own_pair (C:=C) (y:=(0,0)) (g:=g9) (cap:=c9) (w:=w6) (B:=B) (by
  rw [HN.out,pairsL_snoc]
  exact Hvl6.out) (row,pos)
 rw [HN.out] at hvl7
 have hkk:Keep (fun b=>b=g9) w6 ((w6.setCell ⟨g9,N*2,none⟩ (.int .i64 (row:Int))).setCell ⟨g9,N*2+1,none⟩ (.int .i64 (pos:Int))):=((Keep.refl (fun b=>b=g9) w6).setCell (p:=⟨g9,N*2,none⟩) (.inl rfl) _).setCell (p:=⟨g9,N*2+1,none⟩) (.inl rfl) _
 have hsz7:((w6.setCell ⟨g9,N*2,none⟩ (.int .i64 (row:Int))).setCell ⟨g9,N*2+1,none⟩ (.int .i64 (pos:Int))).heap.size=w6.heap.size:=by simp [World.setCell]
 rw [←hsz7]
 clear x0 x1 y0 y1 d1 d2 hlt1 hlt2
 generalize (w6.setCell ⟨g9,N*2,none⟩ (.int .i64 (row:Int))).setCell ⟨g9,N*2+1,none⟩ (.int .i64 (pos:Int))=w7 at hvl7 hkk hsz7⊢
 have hgp7:=hkk.bk Hgp6.out (fun f=>hgpn f)
 have hga7:=hkk.bk Hga6.out (fun f=>by subst f;exact Bk.ne Hga6.out Hb96.out (by decide) rfl)
 have hvo7:=own_keepT Hvo6.out hkk (fun b cs f hb=>by subst f;exact Bk.ne hb Hb96.out (by decide) rfl)
 have hvt7:=own_keepT Hvt6.out hkk (fun b cs f hb=>by subst f;exact Bk.ne hb Hb96.out (by decide) rfl)
 have hB2:B≤w2.heap.size:=by have:=HB.out;have:=Hb2.out.size;omega
 have hB6:=Hk6.out.size
 have hB7:B≤(w7.alloc (.cells #[.int .i64 (N:Int)] 3)).heap.size:=by simp;omega
 have hz8:w7.heap.size < (w7.alloc (.cells #[.int .i64 (N:Int)] 3)).heap.size:=by simp
 have hrd8:Rd (w7.alloc (.cells #[.int .i64 (N:Int)] 3)) (w7.alloc (.cells #[.int .i64 (N:Int)] 3)).heap.size 1 (some ⟨w7.heap.size,0,none⟩) 1 [sv N]:=(Rd.new_ w7 3 1 #[.int .i64 (N:Int)] rfl).mono (by simp)
 have hvo8:=hvo7.alloc (.cells #[.int .i64 (N:Int)] 3)
 have hvl8:=hvl7.alloc (.cells #[.int .i64 (N:Int)] 3)
 have hvt8:=hvt7.alloc (.cells #[.int .i64 (N:Int)] 3)
 have hgp8:=hgp7.alloc (.cells #[.int .i64 (N:Int)] 3)
 have hga8:=hga7.alloc (.cells #[.int .i64 (N:Int)] 3)
 have hb78:Below w7.heap.size w7 (w7.alloc (.cells #[.int .i64 (N:Int)] 3)):=(Below.refl _ _).alloc (Nat.le_refl _) _
 obtain ⟨g7,hg7⟩:∃g,w7.heap.size=g:=⟨_,rfl⟩
 rw [hg7] at hrd8 hz8
 rw [hg7]
 generalize w7.alloc (.cells #[.int .i64 (N:Int)] 3)=w8 at hB7 hrd8 hvo8 hvl8 hvt8 hgp8 hga8 hb78 hz8⊢
 have hk8:Keep (PF gp ga vl vo vt) w2 w8:=(Hk6.out.trans' (hkk.trans' (Keep.of_below hb78) (fun _ _ f=>f)) (fun b hb f=>by
  rcases Hfr6.out with h |⟨g,h,h'⟩
  · exact .inr (.inr (.inl (by rw [←h,f];rfl)))
  · exfalso
    have:g9=g:=by simpa [Value.ownBlock] using h
    omega))
 rw [Hn.out,Hvo.out] at hvo8
 have hins:=InsertEnd_any B Ao n co (ks.map sv) (some ⟨g7,0,none⟩) 1 N w8 hvo8 hrd8 hB7 (by omega)
 refine hins.mono ?_
 clear hins
 rintro e w9 ⟨v9,rfl,hown9,hg9',hat9⟩
 rw [←Hvo.out] at hg9' hat9 hvo8
 have hgp9:=hgp8.grown hg9' (own_bk_ne hvo8 hgp8 (by decide))
 have hga9:=hga8.grown hg9' (own_bk_ne hvo8 hga8 (by decide))
 have hvl9:=own_same (w':=w9) hvl8 fun b cs _ hb=>hb.grown hg9' (own_bk_ne hvo8 hb (by decide))
 have hvt9:=own_same (w':=w9) hvt8 fun b cs _ hb=>hb.grown hg9' (own_bk_ne hvo8 hb (by decide))
 have hk9:=hk8.grown hg9' (fun k hk=>.inl (.inr (.inr (.inr (.inl hk)))))
 have hfr9:v9.ownBlock=vo.ownBlock∨∃g,v9.ownBlock=some g∧w2.heap.size≤g:=by
  rcases hat9 with f | f
  · exact .inl f
  · exact .inr ⟨_,f,hk8.size⟩
 have d2:w9.cell? ⟨gp,2,none⟩=some vo:=(hgp9.cell 2).trans rfl
 rw [Hvo.out] at d2
 have f2:=hgp9.frozen 2
 obtain ⟨A',c',hv9,_⟩:=own_shape hown9
 have Hv9:=lhd hv9
 have Hgp9:=lhd hgp9
 have Hga9:=lhd hga9
 have Hvl9:=lhd hvl9
 have Hvt9:=lhd hvt9
 have Hown9:=lhd hown9
 have Hk9:=lhd hk9
 have Hfr9:=lhd hfr9
 clear hvl7 hkk hsz7 hgp7 hga7 hvo7 hvt7 hB7 hz8 hrd8 hvo8 hvl8 hvt8 hgp8 hga8 hb78 hg7 hk8 hg9' hat9 hgp9 hga9 hvl9 hvt9 hown9 hk9 hfr9
 subst hv9
 go_wp2_with fail
 go_ret
 have hne:∀b t cs,Bk w9 b t cs→t≠157→Bk (w9.setCell ⟨gp,2,none⟩ (.slice A' (n+1) c')) b t cs:=fun b t cs hb ht=>hb.far (p:=⟨gp,2,none⟩) (Bk.ne hb Hgp9.out ht) _
 refine ⟨rfl,(Keep.of_below Hb2.out).trans' (Hk9.out.setCell (.inl (.inl rfl)) _) (fun _ _ f=>f),.slice (some ⟨g9,0,none⟩) (N+1) c9,.slice A' (n+1) c',vt',⟨Hgp9.out.set 2 _,?_,?_,hne _ _ _ Hga9.out (by decide),?_,?_,?_,?_,H.out.lo⟩,?_,?_,?_⟩
 · have:=own_same (w':=w9.setCell ⟨gp,2,none⟩ (.slice A' (n+1) c')) Hvl9.out fun b cs _ hb=>hne _ _ _ hb (by decide)
   simpa [HN.out] using this
 · have:=own_same (w':=w9.setCell ⟨gp,2,none⟩ (.slice A' (n+1) c')) Hown9.out fun b cs _ hb=>hne _ _ _ hb (by decide)
   simpa [Hn.out,HN.out] using this
 · have:=own_same (w':=w9.setCell ⟨gp,2,none⟩ (.slice A' (n+1) c')) Hvt9.out fun b cs _ hb=>hne _ _ _ hb (by decide)
   simpa [Ht.out,HN.out] using this
 · exact World.ownsRow_nil _ _ _ _
 · rcases (Value.slice A' (n+1) c').ownBlock with _ | g
   · exact .inl rfl
   · exact .inr (by simp [Value.ownBlock])
 · intro k hk
   rcases List.mem_append.1 hk with h | h
   · have:=H.out.lt k h
     simp
     omega
   · simp at h
     simp
     omega
 · rcases Hfr9.out with f |⟨g,f,f'⟩
   · exact .inl f
   · exact .inr ⟨g,f,by have:=Hb2.out.size;omega⟩
 · rcases Hfr6.out with f |⟨g,f,f'⟩
   · exact .inl f
   · exact .inr ⟨g,f,by have:=Hb2.out.size;omega⟩
 · rcases Hfr3.out with f |⟨g,f,f'⟩
   · exact .inl f
   · exact .inr ⟨g,f,by have:=Hb2.out.size;omega⟩
end Go.Proofs.YtipaccakmndkgaaGreatDoor
namespace Go.Proofs.YtipaccakmndkgaaGreatDoor
open Go.RowKit Go.Shelf
theorem setCells_bk (g:Nat):∀(vs:List Value) (o:Nat) (w:World) (t:TypeId) (cs:Array Value),Bk w g t cs→∃cs':Array Value,Bk (w.setCells g o vs) g t cs'∧cs'.size=cs.size∧∀j,j < cs.size→cs'[j]?=if o≤j∧j < o+vs.length then vs[j - o]? else cs[j]?
 | [],o,w,t,cs,h=>⟨cs,h,rfl,fun j hj=>by rw [if_neg (by simp)]⟩
 | v::vs,o,w,t,cs,h=>by
   obtain ⟨cs',h1,h2,h3⟩:=setCells_bk g vs (o+1) (w.setCell ⟨g,o,none⟩ v) t _ (h.set o v)
   refine ⟨cs',h1,by rw [h2];simp,fun j hj=>?_⟩
   rw [h3 j (by simpa using hj)]
   by_cases c:o+1≤j∧j < o+1+vs.length
   · rw [if_pos c,if_pos (by simp;omega),show j - o=(j -(o+1))+1 by omega]
     rfl
   · rw [if_neg c,Array.getElem?_setIfInBounds]
     by_cases e:o=j
     · subst e
       rw [if_pos rfl,if_pos hj,if_pos (by simp),Nat.sub_self]
       rfl
     · rw [if_neg e,if_neg (by simp;omega)]
theorem setCells_keep (g:Nat):∀(vs:List Value) (o:Nat) (w0 w:World),Keep (fun b=>b=g) w0 w→Keep (fun b=>b=g) w0 (w.setCells g o vs)
 | [],_,_,_,h=>h
 | v::vs,o,w0,w,h=>setCells_keep g vs (o+1) w0 (w.setCell ⟨g,o,none⟩ v) (h.setCell (p:=⟨g,o,none⟩) (.inl rfl) v)
theorem setCells_keep_new {F:Nat→Prop} (g:Nat):∀(vs:List Value) (o:Nat) (w0 w:World),w0.heap.size≤g→Keep F w0 w→Keep F w0 (w.setCells g o vs)
 | [],_,_,_,_,h=>h
 | v::vs,o,w0,w,hg,h=>setCells_keep_new g vs (o+1) w0 (w.setCell ⟨g,o,none⟩ v) hg (h.setCell (p:=⟨g,o,none⟩) (.inr hg) v)
theorem Bk.shape {w:World} {g:Nat} {t:TypeId} {cs:Array Value} (h:Bk w g t cs):w.shape? g=some (t,cs.size):=by
 unfold Bk at h
 unfold World.shape?
 rw [h]
theorem ei_take_ext {cs:Array Value} {xs:List Value} {n:Nat} (hl:xs.length=n) (hn:n≤cs.size) (h:∀j,j < n→cs[j]?=xs[j]?):cs.toList.take n=xs:=by
 apply List.ext_getElem?
 intro j
 by_cases hj:j < n
 · rw [List.getElem?_take_of_lt hj,Array.getElem?_toList]
   exact h j hj
 · rw [List.getElem?_take_eq_none (by omega),List.getElem?_eq_none (by omega)]
theorem own_cells {w:World} {B g n c:Nat} {e:TypeId} {xs:List Value} (h:w.ownsRow B e 1 (.slice (some ⟨g,0,none⟩) n c) n xs) (hn:0 < n):∃cs:Array Value,Bk w g e cs∧cs.size=c∧n≤c∧c≤maxLen∧B≤g∧∀j,j < n→cs[j]?=xs[j]?:=by
 rcases h.2 with ⟨h1,h2⟩|⟨g',cap,cs,h1,hb,hg,hnc,hm,hsz,htk⟩
 · cases h1
 · injection h1 with h1 _ h3
   injection h1 with h1
   injection h1 with h1 _
   subst h1 h3
   refine ⟨cs,hg,by omega,hnc,hm,hb,fun j hj=>?_⟩
   rw [Nat.mul_one] at htk
   rw [←htk,List.getElem?_take_of_lt hj,Array.getElem?_toList]
def InsPost (B:Nat) (v0:Value) (n:Nat) (xs:List Value) (w:World) (e:Ending) (w':World):Prop:=
 ∃A c,e=.returned (.slice A (n+1) c)∧w'.ownsRow B 3 1 (.slice A (n+1) c) (n+1) xs∧Keep (fun b=>v0.ownBlock=some b) w w'∧((Value.slice A (n+1) c).ownBlock=v0.ownBlock∨∃g,(Value.slice A (n+1) c).ownBlock=some g∧w.heap.size≤g)
theorem InsertMid_any (B:Nat) (A:Option Addr) (n c i:Nat) (ks:List Nat) (gx k:Nat) (w:World) (hown:w.ownsRow B 3 1 (.slice A n c) n (ks.map sv)) (hx:Bk w gx 3 #[sv k]) (hxg:∀b,(Value.slice A n c).ownBlock=some b→b≠gx) (hB:B≤w.heap.size) (hi:i < n) (hn:n≤1000000):
 Calls Tryz.prog 123 #[.slice A n c,.int .i64 (i:Int),.slice (some ⟨gx,0,none⟩) 1 1] w (InsPost B (.slice A n c) n ((insN ks i k).map sv) w):=by
 have hl:ks.length=n:=by have:=hown.1;simpa using this
 obtain ⟨g,k1,e1,_,hgl⟩:=World.ownsRow.form hown (by omega)
 injection e1 with e1 _ e3
 subst e1 e3
 obtain ⟨cs,hg,hcs,hnc,hm,hBg,hcell⟩:=own_cells hown (by omega)
 have hne:gx≠g:=fun e=>hxg g rfl e.symm
 have hcs0:∀j v,(ks.map sv)[j]?=some v→w.cell? ⟨g,0+j,none⟩=some v:=fun j v hv=>by
  have hj:j < n:=by
   have:=(List.getElem?_eq_some_iff.1 hv).1
   simpa [hl] using this
  rw [Nat.zero_add,hg.cell,hcell j hj,hv]
 have hvs0:∀j v, [sv k][j]?=some v→w.cell? ⟨gx,0+j,none⟩=some v:=fun j v hv=>by
  rw [Nat.zero_add,hx.cell,←hv]
  rcases j with _ | j
  · rfl
  · simp at hv
 have h1c:∀v∈ks.map sv,v.oneCell'=true:=fun v hv=>by
  obtain ⟨a,_,rfl⟩:=List.mem_map.1 hv
  rfl
 have h1v:∀v∈ [sv k],v.oneCell'=true:=fun v hv=>by
  rw [List.mem_singleton] at hv
  subst hv
  rfl
 have hins:∀j,j < n+1→((insN ks i k).map sv)[j]?=if j < i then (ks.map sv)[j]? else if j=i then some (sv k) else (ks.map sv)[j - 1]?:=fun j hj=>by
  rw [insN_map,insN_get _ _ (by rw [List.length_map];omega)]
 have hil:((insN ks i k).map sv).length=n+1:=by rw [List.length_map,insN_len _ _ (by omega),hl]
 by_cases hroom:n+1≤c
 · have hcell':∀j,j < n+1→w.cell? ⟨g,0+j,none⟩=some (cs.getD j (.bool false)):=fun j hj=>by
    rw [Nat.zero_add,hg.cell,Array.getElem?_eq_getElem (by omega)]
    congr 1
    rw [Array.getD_eq_getD_getElem?,Array.getElem?_eq_getElem (by omega)]
    rfl
   have hcall:=Any2.slices_Insert_int_shift shIns g 0 n c i gx 0 1 1 (ks.map sv) [sv k] w hi (by decide) hroom (by unfold maxLen at hm;omega) hne (by simpa using hl) rfl hcs0 (fun j hj=>by rw [hcell' j hj];rfl) (fun j hj=>by rw [Nat.zero_add];exact hg.frozen j) hvs0 h1c h1v 3 3 1 cs.size (hx.shape) (hg.shape) (by omega) (hx.frozen 0) (hx.frozen 1)
   refine hcall.mono ?_
   rintro e w' ⟨rfl,rfl⟩
   obtain ⟨cs1,p1,p2,p3⟩:=setCells_bk g ((ks.map sv).drop i) (0+(i+1)) w.drew _ _ hg.drew
   obtain ⟨cs2,q1,q2,q3⟩:=setCells_bk g [sv k] (0+i) _ _ _ p1
   refine ⟨_,c,rfl,⟨by rw [hil,Nat.mul_one],.inr ⟨g,c,cs2,rfl,hBg,q1,hroom,hm,by omega,?_⟩⟩,(setCells_keep g _ _ w _ (setCells_keep g _ _ w _ (Keep.refl _ w).drew)).mono fun b _ e=>by rw [show b=g from e];rfl,.inl rfl⟩
   rw [Nat.mul_one]
   refine ei_take_ext hil (by omega) fun j hj=>?_
   rw [hins j hj,q3 j (by omega),p3 j (by omega)]
   simp only [List.length_cons,List.length_nil,List.length_drop,List.length_map,hl]
   by_cases c1:j < i
   · rw [if_neg (by omega),if_neg (by omega),if_pos c1,hcell j (by omega)]
   · by_cases c2:j=i
     · subst c2
       rw [if_pos (by omega),if_neg (by omega),if_pos rfl]
       simp
     · rw [if_neg (by omega),if_pos (by omega),if_neg c1,if_neg c2,List.getElem?_drop]
       congr 1
       omega
 · have hcall:=Any2.slices_Insert_int_grow shIns g 0 n c i gx 0 1 1 (ks.map sv) [sv k] w hi (by decide) hnc (by omega) (by omega) (by simpa using hl) rfl hcs0 hvs0 h1c h1v
   refine hcall.mono ?_
   rintro e w' ⟨rfl,rfl⟩
   obtain ⟨N,hN⟩:∃N,grownCap w (n+1) c 3=N:=⟨_,rfl⟩
   have hN1:n+1≤N:=by rw [←hN];exact grownCap_ge _ _ _ _
   have hN2:N≤maxLen:=by rw [←hN];exact grownCap_le_maxLen _ _ _ _ (by unfold maxLen;omega)
   show InsPost _ _ _ _ _ (.returned (.slice _ _ (grownCap w (n+1) c 3))) _
   rw [hN]
   have hz:∀q,(Builtin.zeroCells (Value.int .i64 0).cells q).size=q:=fun q=>by simp [Builtin.zeroCells,Value.cells]
   obtain ⟨C0,hC0⟩:∃C0,((ks.map sv).take i).toArray++Builtin.zeroCells (Value.int .i64 0).cells (n+1 - i)++Builtin.zeroCells (Value.int .i64 0).cells (N -(n+1))=C0:=⟨_,rfl⟩
   have hC0s:C0.size=N:=by
    rw [←hC0,Array.size_append,Array.size_append,hz,hz]
    simp [hl]
    omega
   have hC0g:∀j,j < i→C0[j]?=(ks.map sv)[j]?:=fun j hj=>by
    have hs:(((ks.map sv).take i).toArray).size=i:=by simp [hl];omega
    rw [←hC0,Array.append_assoc,Array.getElem?_append_left (by omega),List.getElem?_toArray,List.getElem?_take_of_lt hj]
   have hb0:Bk (w.alloc (.cells C0 3)) w.heap.size 3 C0:=Bk.new _ _ _
   have hcs:=hC0
   show InsPost _ _ _ _ _ _ ((((w.alloc (.cells (((ks.map sv).take i).toArray++Builtin.zeroCells (Value.int .i64 0).cells (n+1 - i)++Builtin.zeroCells (Value.int .i64 0).cells (grownCap w (n+1) c 3 -(n+1))) 3)).drew.setCells w.heap.size i [sv k]).drew).setCells w.heap.size (i+1) ((ks.map sv).drop i))
   rw [hN,hC0]
   obtain ⟨cs1,p1,p2,p3⟩:=setCells_bk w.heap.size [sv k] i _ _ _ hb0.drew
   obtain ⟨cs2,q1,q2,q3⟩:=setCells_bk w.heap.size ((ks.map sv).drop i) (i+1) _ _ _ p1.drew
   refine ⟨_,N,rfl,⟨by rw [hil,Nat.mul_one],.inr ⟨w.heap.size,N,cs2,rfl,hB,q1,hN1,hN2,by omega,?_⟩⟩,setCells_keep_new _ _ _ w _ (Nat.le_refl _) (setCells_keep_new _ _ _ w _ (Nat.le_refl _) ((Keep.refl _ w).alloc _).drew).drew,.inr ⟨_,rfl,Nat.le_refl _⟩⟩
   rw [Nat.mul_one]
   refine ei_take_ext hil (by omega) fun j hj=>?_
   rw [hins j hj,q3 j (by omega),p3 j (by omega)]
   simp only [List.length_cons,List.length_nil,List.length_drop,List.length_map,hl]
   by_cases c1:j < i
   · rw [if_neg (by omega),if_neg (by omega),if_pos c1,hC0g j c1]
   · by_cases c2:j=i
     · subst c2
       rw [if_neg (by omega),if_pos (by omega),if_neg c1,if_pos rfl]
       simp
     · rw [if_pos (by omega),if_neg c1,if_neg c2,List.getElem?_drop]
       congr 1
       omega
theorem InsertAny_any (B:Nat) (A:Option Addr) (n c i:Nat) (ks:List Nat) (gx k:Nat) (w:World) (hown:w.ownsRow B 3 1 (.slice A n c) n (ks.map sv)) (hx:Bk w gx 3 #[sv k]) (hxg:∀b,(Value.slice A n c).ownBlock=some b→b≠gx) (hB:B≤w.heap.size) (hi:i≤n) (hn:n≤1000000):
 Calls Tryz.prog 123 #[.slice A n c,.int .i64 (i:Int),.slice (some ⟨gx,0,none⟩) 1 1] w (InsPost B (.slice A n c) n ((insN ks i k).map sv) w):=by
 by_cases h:i < n
 · exact InsertMid_any B A n c i ks gx k w hown hx hxg hB h hn
 · obtain rfl:i=n:=by omega
   have hl:ks.length=i:=by have:=hown.1;simpa using this
   have hr:Rd w w.heap.size 1 (some ⟨gx,0,none⟩) 1 [sv k]:=by
    refine ⟨rfl,fun _=>⟨gx,0,rfl,hx.lt,fun j u hu=>?_⟩⟩
    rcases j with _ | j
    · injection hu with hu
      subst hu
      exact (hx.cell 0).trans rfl
    · simp at hu
   refine (InsertEnd_any B A i c (ks.map sv) (some ⟨gx,0,none⟩) 1 k w hown hr hB hn).mono ?_
   rintro e w' ⟨v,rfl,ho,hg,hv⟩
   have e1:(insN ks i k).map sv=ks.map sv++ [sv k]:=by
    unfold insN
    rw [List.take_of_length_le (by omega),List.drop_of_length_le (by omega),List.map_append]
    rfl
   obtain ⟨A',c',rfl,_⟩:=own_shape ho
   refine ⟨A',c',rfl,by rw [e1];exact ho,⟨hg.os,hg.tape,hg.output,hg.size,fun b hb hne=>hg.block b hb fun e=>hne e.symm⟩,?_⟩
   rcases hv with hv | hv
   · exact .inl hv
   · exact .inr ⟨_,hv,Nat.le_refl _⟩
end Go.Proofs.YtipaccakmndkgaaGreatDoor
