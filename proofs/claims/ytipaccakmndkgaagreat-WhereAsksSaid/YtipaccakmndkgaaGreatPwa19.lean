/- The walks of perm's at and has. Conditions: the pairs are sorted by their rows (PermAt says how a Perm lies in memory). The walk of perm's has: where in the order the pair of a place stands. No conditions beyond how a Perm lies in memory. The walks of arena's Live and Take (no number is free), of slices.Insert at the end, of perm's New and Add (a row behind all others). Conditions: at most 2^20 numbers. -/
import Derived.Test.YtipaccakmndkgaaGreatPwa18
import Derived.Shelf.SlCmpFuncs.None
namespace Go.Proofs.YtipaccakmndkgaaGreat
open Go.RowKit Go.Shelf
open Go.Sort (Holds)
set_option linter.unusedVariables false
set_option linter.unusedSimpArgs false
structure PermAt (w:World) (B gp ga:Nat) (vl vo vt vf:Value) (R P:Nat) (ks:List Nat) (C:List (Nat×Nat)) (tk:List Bool) (fr:List Nat):Prop where
 blk:Bk w gp 68 #[.pointer (some ⟨ga,0,none⟩),vl,vo,.int .i64 (R:Int),.int .i64 (P:Int)]
 lrow:w.ownsRow B 70 2 vl C.length (pairsL C)
 orow:w.ownsRow B 3 1 vo ks.length (ks.map sv)
 ar:Bk w ga 107 #[vt,vf,.int .i64 268435456]
 trow:w.ownsRow B 4 1 vt tk.length (tk.map Value.bool)
 frow:w.ownsRow B 3 1 vf fr.length (fr.map sv)
 apart:vo.ownBlock=none∨vo.ownBlock≠vf.ownBlock
 lt:∀k∈ks,k < C.length
 lo:B≤gp∧B≤ga
theorem cnt_lt {l:List Nat} {f:Nat→Nat} (h:l.Pairwise (fun a b=>f a < f b)) (r:Nat):∀(j x:Nat),l[j]?=some x→(f x < r↔j < l.countP fun k=>decide (f k < r)):=by
 induction l with
 | nil=>intro j x h;cases h
 | cons y l ih=>
   obtain ⟨h1,h2⟩:=List.pairwise_cons.1 h
   intro j x hj
   rw [List.countP_cons]
   by_cases hy:f y < r
   · rcases j with _ | j
     · simp at hj
       subst hj
       simp [hy]
     · have:=ih h2 j x (by simpa using hj)
       simp only [hy,decide_true,if_true]
       omega
   · have h0:(l.countP fun k=>decide (f k < r))=0:=by
        rw [List.countP_eq_zero]
        intro a ha
        have:=h1 a ha
        simp
        omega
     rcases j with _ | j
     · simp at hj
       subst hj
       simp [hy,h0]
     · have hx:=h1 x (List.mem_of_getElem? (by simpa using hj))
       simp only [h0,hy,decide_false]
       simp
       omega
theorem cnt_found {l:List Nat} {f:Nat→Nat} (h:l.Pairwise (fun a b=>f a < f b)) (r:Nat):(∃x,l[l.countP fun k=>decide (f k < r)]?=some x∧f x=r)↔∃k∈l,f k=r:=by
 constructor
 · rintro ⟨x,h1,h2⟩
   exact ⟨x,List.mem_of_getElem? h1,h2⟩
 · rintro ⟨k,hk,rfl⟩
   obtain ⟨j,hj,rfl⟩:=List.getElem_of_mem hk
   have e1:=List.getElem?_eq_getElem hj
   have h1:=cnt_lt h (f l[j]) j _ e1
   have hle:¬j < l.countP fun k=>decide (f k < f l[j]):=fun e=>by have:=h1.2 e;omega
   rcases Nat.lt_or_ge (l.countP fun k=>decide (f k < f l[j])) j with h2 | h2
   · have hlt:(l.countP fun k=>decide (f k < f l[j])) < l.length:=by omega
     have e2:=List.getElem?_eq_getElem hlt
     have h3:=cnt_lt h (f l[j]) _ _ e2
     have h4:¬f l[l.countP fun k=>decide (f k < f l[j])] < f l[j]:=fun e=>by have:=h3.1 e;omega
     have h5:=List.pairwise_iff_getElem.1 h _ _ hlt hj h2
     omega
   · have e:(l.countP fun k=>decide (f k < f l[j]))=j:=by omega
     rw [e]
     exact ⟨_,e1,rfl⟩
def ordA (c:Nat) (ks:List Nat):Array (Fin (c+1)):=(ks.map fun k=>(⟨k %(c+1),Nat.mod_lt _ (Nat.succ_pos c)⟩:Fin (c+1))).toArray
theorem ordA_get {c:Nat} {ks:List Nat} (h:∀k∈ks,k < c+1) {j k:Nat} (hj:ks[j]?=some k):((ordA c ks)[j]!).val=k:=by
 have hl:j < ks.length:=(List.getElem?_eq_some_iff.1 hj).1
 have hk:=h k (List.mem_of_getElem? hj)
 have e:ks[j]=k:=by rw [List.getElem?_eq_getElem hl] at hj;injection hj
 rw [getB _ _ (by simpa [ordA] using hl)]
 simp [ordA,e,Nat.mod_eq_of_lt hk]
theorem ordA_count {c:Nat} {ks:List Nat} (h:∀k∈ks,k < c+1) (p:Nat→Bool):(ordA c ks).toList.countP (fun x=>p x.val)=ks.countP p:=by
 unfold ordA
 rw [List.countP_map]
 refine List.countP_congr fun k hk=>?_
 simp [Nat.mod_eq_of_lt (h k hk)]
theorem ordA_holds {w:World} {c g:Nat} {ks:List Nat} {cs:Array Value} (hb:Bk w g 3 cs) (h:∀k∈ks,k < c+1) (ht:cs.toList.take ks.length=ks.map sv):Holds (encF c) w g 0 (ordA c ks):=by
 intro j hj
 have hl:j < ks.length:=by simpa [ordA] using hj
 rw [Nat.zero_add]
 refine ⟨?_,hb.frozen j⟩
 have e:(cs.toList.take ks.length)[j]?=(ks.map sv)[j]?:=by rw [ht]
 rw [List.getElem?_take,if_pos hl,List.getElem?_map,List.getElem?_eq_getElem hl,Array.getElem?_toList] at e
 rw [hb.cell,e]
 have:=ordA_get h (List.getElem?_eq_getElem hl)
 simp [encF,this,sv]
theorem sw_below {w w':World} {c g:Nat} {d:Array (Fin (c+1))} (hH:Holds (encF c) w g 0 d) (h:SW (encF c) w g 0 d w'):Below w.heap.size w w':=by
 obtain ⟨n,os,rfl⟩:=h
 unfold sortWorld
 have e:Go.Sort.putRow (encF c) (Go.Sort.ahead w n) g 0 d=Go.Sort.ahead w n:=Go.Sort.putRow_self (encF c) _ g 0 d hH
 rw [e]
 exact ⟨rfl,rfl,rfl,by show w.heap.size≤(w.heap++os).size;simp,fun k hk=>Go.Sort.heap_grow_old _ _ hk⟩
theorem cmp_neg (x y:Int):Lib.compareInt x y < 0↔x < y:=by
 unfold Lib.compareInt
 split
 · simp [*]
 · split <;> simp [*]
theorem cmp_zero (x y:Int):Lib.compareInt x y=0↔x=y:=by
 unfold Lib.compareInt
 split
 · simp;omega
 · split
   · simp;omega
   · simp;omega
section
variable {w : World} {B gp ga : Nat} {vl vo vt vf : Value} {R P : Nat} {ks : List Nat} {C : List (Nat × Nat)} {tk : List Bool} {fr : List Nat}
theorem PermAt.prd (h:PermAt w B gp ga vl vo vt vf R P ks C tk fr) {gb:Nat} {w':World} (hb:w'.cell? ⟨gb,0,none⟩=some (.pointer (some ⟨gp,0,none⟩))) (k:Below w.heap.size w w'):∃A n c,vl=.slice A n c∧PRd w' gb gp A n c C:=by
 obtain ⟨A,c,e,_⟩:=own_shape h.lrow
 refine ⟨A,C.length,c,e,hb,?_,?_⟩
 · have:=(h.blk.below k h.blk.lt).cell 1
   rw [e] at this
   exact this
 · have h1:=own_below h.lrow k
   rw [e] at h1
   exact Rd.of_own h1
end
theorem at_fin {ks:List Nat} {C:List (Nat×Nat)} {c row:Nat} (hc:C.length=c+1) (hlt:∀k∈ks,k < C.length) (hs:ks.Pairwise (fun a b=>rowK C a < rowK C b)):
 ((ordA c ks).toList.countP (fun x=>decide (Lib.compareInt (rowK C x.val:Nat) row < 0)))=ks.countP (fun k=>decide (rowK C k < row))∧
 (decide (((ordA c ks).toList.countP (fun x=>decide (Lib.compareInt (rowK C x.val:Nat) row < 0))) < (ordA c ks).size)&&decide (Lib.compareInt (rowK C ((ordA c ks)[((ordA c ks).toList.countP (fun x=>decide (Lib.compareInt (rowK C x.val:Nat) row < 0)))]!).val:Nat) row=0))=decide (∃k∈ks,rowK C k=row):=by
 have hlt':∀k∈ks,k < c+1:=fun k hk=>by rw [←hc];exact hlt k hk
 have e1:(ordA c ks).toList.countP (fun x=>decide (Lib.compareInt (rowK C x.val:Nat) row < 0))=ks.countP (fun k=>decide (rowK C k < row)):=by
  rw [←ordA_count hlt' (fun k=>decide (rowK C k < row))]
  congr 1
  funext x
  rw [decide_eq_decide,cmp_neg]
  omega
 refine ⟨e1,?_⟩
 rw [e1,Bool.eq_iff_iff]
 simp only [Bool.and_eq_true,decide_eq_true_eq,cmp_zero]
 rw [←cnt_found (f:=rowK C) hs row]
 constructor
 · rintro ⟨h1,h2⟩
   have hl:(ks.countP fun k=>decide (rowK C k < row)) < ks.length:=by simpa [ordA] using h1
   refine ⟨_,List.getElem?_eq_getElem hl,?_⟩
   rw [ordA_get hlt' (List.getElem?_eq_getElem hl)] at h2
   omega
 · rintro ⟨x,h1,h2⟩
   have hl:=(List.getElem?_eq_some_iff.1 h1).1
   refine ⟨by simpa [ordA] using hl,?_⟩
   rw [ordA_get hlt' h1]
   omega
set_option maxRecDepth 100000 in
set_option maxHeartbeats 1000000 in
theorem PermAt_any (B gp ga:Nat) (vl vo vt vf:Value) (R P:Nat) (ks:List Nat) (C:List (Nat×Nat)) (tk:List Bool) (fr:List Nat) (row:Nat) (w:World) (h:PermAt w B gp ga vl vo vt vf R P ks C tk fr) (hs:ks.Pairwise (fun a b=>rowK C a < rowK C b)) (hk:ks.length≤1099511627776):
 Calls Tryz.prog 45 #[.pointer (some ⟨gp,0,none⟩),.int .i64 (row:Int)] w fun e w'=>e=.returned (.tuple #[.int .i64 ((ks.countP (fun k=>decide (rowK C k < row)):Nat):Int),.bool (decide (∃k∈ks,rowK C k=row))])∧Below w.heap.size w w':=by
 have hgp:=h.blk.lt
 have hbx:Below w.heap.size w (w.alloc (.cells #[.pointer (some ⟨gp,0,none⟩)] 40)):=(Below.refl _ _).alloc (Nat.le_refl _) _
 have c2:w.cell? ⟨gp,2,none⟩=some vo:=(h.blk.cell 2).trans rfl
 have hcall:∀A n c,vo=.slice A n c→Calls Tryz.prog 76 #[.slice A n c,.int .i64 (row:Int),.func (.func 77) #[] #[.pointer (some ⟨w.heap.size,0,none⟩)]] (w.alloc (.cells #[.pointer (some ⟨gp,0,none⟩)] 40)) fun e w'=>e=.returned (.tuple #[.int .i64 ((ks.countP (fun k=>decide (rowK C k < row)):Nat):Int),.bool (decide (∃k∈ks,rowK C k=row))])∧Below w.heap.size w w':=by
  intro A n c ev
  rcases Nat.eq_zero_or_pos ks.length with h0 | h0
  · have hke:ks= []:=List.eq_nil_of_length_eq_zero h0
    obtain ⟨A9,c9,e9,_⟩:=own_shape h.orow
    rw [ev] at e9
    injection e9 with _ e9 _
    rw [h0] at e9
    subst e9
    subst hke
    refine (Any.slices_BinarySearchFunc_none shBin A c (.int .i64 (row:Int)) (.func (.func 77) #[] #[.pointer (some ⟨w.heap.size,0,none⟩)]) _).mono ?_
    rintro e w' ⟨rfl,rfl⟩
    exact ⟨by simp,hbx⟩
  · rcases h.orow.2 with ⟨_,e⟩|⟨g,cap,cs,e,hBg,hg,hn,hm,hz,ht⟩
    · omega
    · rw [ev] at e
      injection e with e1 e2 e3
      subst e1 e2 e3
      rw [Nat.mul_one] at ht
      obtain ⟨k0,hk0⟩:∃k,k∈ks:=by
       obtain ⟨x,hx⟩:=List.exists_mem_of_length_pos h0
       exact ⟨x,hx⟩
      obtain ⟨cc,hcc⟩:∃cc,C.length=cc+1:=⟨C.length - 1,by have:=h.lt k0 hk0;omega⟩
      have hlt':∀k∈ks,k < cc+1:=fun k hk=>by rw [←hcc];exact h.lt k hk
      have hgb:Bk w g 3 cs:=hg
      have hgA:=hgb.below hbx hgb.lt
      have hH:=ordA_holds hgA hlt' ht
      have hbox:(w.alloc (.cells #[.pointer (some ⟨gp,0,none⟩)] 40)).cell? ⟨w.heap.size,0,none⟩=some (.pointer (some ⟨gp,0,none⟩)):=(Bk.new w 40 #[.pointer (some ⟨gp,0,none⟩)]).cell 0
      have hcmp:CmpLaysT Tryz.prog 77 #[.pointer (some ⟨w.heap.size,0,none⟩)] (encF cc) (.int .i64 (row:Int)) (fun x=>Lib.compareInt (rowK C x.val:Nat) row) g 0 (ordA cc ks).size (w.alloc (.cells #[.pointer (some ⟨gp,0,none⟩)] 40)):=by
       intro q os dk hdk x
       have hk9:=sort_keep (enc:=encF cc) hgA.lt 0 q dk os
       obtain ⟨A,n,c,e,hp⟩:=h.prd hbox hbx
       have hp9:PRd (sortWorld (encF cc) (w.alloc (.cells #[.pointer (some ⟨gp,0,none⟩)] 40)) g 0 q dk os) w.heap.size gp A n c C:=by
          refine ⟨?_,?_,?_⟩
          · exact (hk9.cell (p:=⟨w.heap.size,0,none⟩) (by simp) (fun e=>by have:=hgb.lt;have e':w.heap.size=g:=e;omega)).trans hp.box
          · exact (hk9.cell (p:=⟨gp,1,none⟩) (by simp;omega) (Bk.ne h.blk hgb (by decide))).trans hp.sl
          · have hl1:=own_below h.lrow hbx
            have hl2:=own_same (w':=sortWorld (encF cc) (w.alloc (.cells #[.pointer (some ⟨gp,0,none⟩)] 40)) g 0 q dk os) hl1 fun b cs' _ hb'=>hk9.bk hb' (Bk.ne hb' hgA (by decide))
            obtain ⟨A9,c9,e9,_⟩:=own_shape h.lrow
            rw [e] at e9 hl2
            injection e9 with e91 e92 e93
            subst e92
            exact Rd.of_own hl2
       exact (PermAt1_any w.heap.size gp A n c C x.val row _ hp9 (by rw [hcc];exact x.isLt)).mono fun _ _ ⟨h1,h2⟩=>⟨h1,0,#[],by rw [←h2,Go.Sort.grow_empty];rfl⟩
      have hmono:∀a b,a≤b→b < (ordA cc ks).size→Lib.compareInt (rowK C ((ordA cc ks)[b]!).val:Nat) row < 0→Lib.compareInt (rowK C ((ordA cc ks)[a]!).val:Nat) row < 0:=by
       intro a b hab hb hlt
       have hb':b < ks.length:=by simpa [ordA] using hb
       rw [ordA_get hlt' (List.getElem?_eq_getElem hb'),cmp_neg] at hlt
       rw [ordA_get hlt' (List.getElem?_eq_getElem (show a < ks.length by omega)),cmp_neg]
       rcases Nat.eq_or_lt_of_le hab with rfl | hab
       · exact hlt
       · have:=List.pairwise_iff_getElem.1 hs a b (by omega) hb' hab
         omega
      have hz9:(ordA cc ks).size=ks.length:=by simp [ordA]
      have hB:=Any.slices_BinarySearchFunc shBin (encF cc) (oneCell_encF cc) (.int .i64 (row:Int)) (fun x=>Lib.compareInt (rowK C x.val:Nat) row) 77 #[.pointer (some ⟨w.heap.size,0,none⟩)] g 0 c (ordA cc ks) (w.alloc (.cells #[.pointer (some ⟨gp,0,none⟩)] 40)) (enters_of Tryz.func77 (by kernel_rfl) rfl) hcmp hH hgA.lt (by rw [hz9];omega) hmono
      obtain ⟨f1,f2⟩:=at_fin (row:=row) hcc h.lt hs
      rw [f1] at f2
      rw [f1,f2] at hB
      rw [hz9] at hB
      refine hB.mono ?_
      rintro e w' ⟨rfl,hsw⟩
      exact ⟨rfl,hbx.trans ((sw_below hH hsw).mono (by simp))⟩
 obtain ⟨A,c,e,_⟩:=own_shape h.orow
 have hc:=hcall _ _ _ e
 rw [e] at c2
 obtain ⟨i,hi⟩:∃i,ks.countP (fun k=>decide (rowK C k < row))=i:=⟨_,rfl⟩
 obtain ⟨fd,hfd⟩:∃b,decide (∃k∈ks,rowK C k=row)=b:=⟨_,rfl⟩
 rw [hi,hfd] at hc
 rw [hi,hfd]
 clear hcall h hs hi hfd hbx e
 go_enter Tryz.func45,Tryz.ntmps45
 go_wp2_with fail
 refine hc.mono ?_
 rintro e w' ⟨rfl,hb⟩
 go_wp2_with fail
 go_ret2
 exact ⟨rfl,hb⟩
end Go.Proofs.YtipaccakmndkgaaGreat
namespace Go.Proofs.YtipaccakmndkgaaGreat
open Go.RowKit Go.Shelf
open Go.Sort (Holds)
set_option linter.unusedVariables false
set_option linter.unusedSimpArgs false
def firstI (p:Nat→Bool):List Nat→Nat→Int
 | [],_=>-1
 | k::l,i=>if p k then (i:Int) else firstI p l (i+1)
theorem firstI_none {p:Nat→Bool} {l:List Nat} (h:∀k∈l,p k=false) (i:Nat):firstI p l i=-1:=by
 induction l generalizing i with
 | nil=>rfl
 | cons k l ih=>
   unfold firstI
   rw [if_neg (by rw [h k (by simp)];simp)]
   exact ih (fun k hk=>h k (by simp [hk])) _
theorem firstI_some {p:Nat→Bool} {l:List Nat} (h:∃k∈l,p k=true) (i:Nat):∃(j k:Nat),firstI p l i=((i+j:Nat):Int)∧l[j]?=some k∧p k=true:=by
 induction l generalizing i with
 | nil=>obtain ⟨k,hk,_⟩:=h;cases hk
 | cons x l ih=>
   unfold firstI
   by_cases hx:p x=true
   · rw [if_pos hx]
     exact ⟨0,x,rfl,rfl,hx⟩
   · rw [if_neg hx]
     obtain ⟨k,hk,hp⟩:=h
     have hk':k∈l:=by
        rcases List.mem_cons.1 hk with rfl | h
        · exact absurd hp hx
        · exact h
     obtain ⟨j,k',h1,h2,h3⟩:=ih ⟨k,hk',hp⟩ (i+1)
     exact ⟨j+1,k',by rw [h1];congr 1;omega,by simpa using h2,h3⟩
theorem idx_first {c:Nat} {ks:List Nat} (h:∀k∈ks,k < c+1) (p:Nat→Bool) (d:Fin (c+1)) (i:Nat):Lib.idxByFrom (fun (_ y:Fin (c+1))=>p y.val) d ((ks.map fun k=>(⟨k %(c+1),Nat.mod_lt _ (Nat.succ_pos c)⟩:Fin (c+1)))) i=firstI p ks i:=by
 induction ks generalizing i with
 | nil=>rfl
 | cons k l ih=>
   rw [List.map_cons]
   unfold Lib.idxByFrom firstI
   simp only [Nat.mod_eq_of_lt (h k (by simp))]
   rw [ih (fun k hk=>h k (by simp [hk]))]
set_option maxRecDepth 100000 in
set_option maxHeartbeats 1000000 in
theorem PermHas_any (B gp ga:Nat) (vl vo vt vf:Value) (R P:Nat) (ks:List Nat) (C:List (Nat×Nat)) (tk:List Bool) (fr:List Nat) (pos:Nat) (w:World) (h:PermAt w B gp ga vl vo vt vf R P ks C tk fr) (hk:ks.length≤1099511627776):
 Calls Tryz.prog 46 #[.pointer (some ⟨gp,0,none⟩),.int .i64 (pos:Int)] w fun e w'=>e=.returned (.int .i64 (firstI (fun k=>decide (posK C k=pos)) ks 0))∧Below w.heap.size w w':=by
 have hgp:=h.blk.lt
 have c2:w.cell? ⟨gp,2,none⟩=some vo:=(h.blk.cell 2).trans rfl
 obtain ⟨W,hW⟩:∃W,W=(w.alloc (.cells #[.pointer (some ⟨gp,0,none⟩)] 40)).alloc (.cells #[.int .i64 (pos:Int)] 3):=⟨_,rfl⟩
 have hbx:Below w.heap.size w W:=hW ▸((Below.refl _ _).alloc (Nat.le_refl _) _).alloc (by simp) _
 have hbk1:Bk W w.heap.size 40 #[.pointer (some ⟨gp,0,none⟩)]:=hW ▸(Bk.new _ _ _).alloc _
 have hbk2:Bk W (w.heap.size+1) 3 #[.int .i64 (pos:Int)]:=by
  have:=Bk.new (w.alloc (.cells #[.pointer (some ⟨gp,0,none⟩)] 40)) 3 #[.int .i64 (pos:Int)]
  rw [←hW] at this
  simpa using this
 have hcall:∀A n c,vo=.slice A n c→Calls Tryz.prog 79 #[.slice A n c,.func (.func 80) #[] #[.pointer (some ⟨w.heap.size,0,none⟩),.pointer (some ⟨w.heap.size+1,0,none⟩)]] W fun e w'=>e=.returned (.int .i64 (firstI (fun k=>decide (posK C k=pos)) ks 0))∧Below w.heap.size w w':=by
  intro A n c ev
  rcases Nat.eq_zero_or_pos ks.length with h0 | h0
  · have hke:ks= []:=List.eq_nil_of_length_eq_zero h0
    obtain ⟨A9,c9,e9,_⟩:=own_shape h.orow
    rw [ev] at e9
    injection e9 with _ e9 _
    rw [h0] at e9
    subst e9
    subst hke
    refine (AnyE.slices_IndexFunc_empty shIdx A c (.func (.func 80) #[] #[.pointer (some ⟨w.heap.size,0,none⟩),.pointer (some ⟨w.heap.size+1,0,none⟩)]) _).mono ?_
    rintro e w' ⟨rfl,rfl⟩
    exact ⟨rfl,hbx⟩
  · rcases h.orow.2 with ⟨_,e⟩|⟨g,cap,cs,e,hBg,hg,hn,hm,hz,ht⟩
    · omega
    · rw [ev] at e
      injection e with e1 e2 e3
      subst e1 e2 e3
      rw [Nat.mul_one] at ht
      obtain ⟨k0,hk0⟩:∃k,k∈ks:=by
       obtain ⟨x,hx⟩:=List.exists_mem_of_length_pos h0
       exact ⟨x,hx⟩
      obtain ⟨cc,hcc⟩:∃cc,C.length=cc+1:=⟨C.length - 1,by have:=h.lt k0 hk0;omega⟩
      have hlt':∀k∈ks,k < cc+1:=fun k hk=>by rw [←hcc];exact h.lt k hk
      have hgb:Bk w g 3 cs:=hg
      have hgA:=hgb.below hbx hgb.lt
      have hH:=ordA_holds hgA hlt' ht
      have hp:PredAt Tryz.prog 80 #[.pointer (some ⟨w.heap.size,0,none⟩),.pointer (some ⟨w.heap.size+1,0,none⟩)] (encF cc) (fun x=>decide (posK C x.val=pos)) W:=by
       intro W' x hb'
       have hb1:=hbk1.below hb' hbk1.lt
       have hb2:=hbk2.below hb' hbk2.lt
       obtain ⟨A,n,c,e,hp⟩:=h.prd (w':=W') (hb1.cell 0) (hbx.trans (hb'.mono hbx.size))
       exact PermHas1_any w.heap.size (w.heap.size+1) gp A n c C x.val pos W' hp (hb2.cell 0) (by rw [hcc];exact x.isLt)
      have hz9:ks.length=(ks.map fun k=>(⟨k %(cc+1),Nat.mod_lt _ (Nat.succ_pos cc)⟩:Fin (cc+1))).length:=by simp
      have hI:=AnyE.slices_IndexFunc shIdx (encF cc) (fun x=>decide (posK C x.val=pos)) 80 #[.pointer (some ⟨w.heap.size,0,none⟩),.pointer (some ⟨w.heap.size+1,0,none⟩)] (enters_of Tryz.func80 (by kernel_rfl) rfl) g 0 ks.length c (ks.map fun k=>(⟨k %(cc+1),Nat.mod_lt _ (Nat.succ_pos cc)⟩:Fin (cc+1))) W hp (by simp) (by omega) (fun j hj=>by
       have h1:=(hH j (by simpa [ordA] using hj)).1
       simpa [ordA] using h1)
      rw [List.take_of_length_le (by simp),Lib.idxBy,idx_first hlt' (fun k=>decide (posK C k=pos))] at hI
      refine hI.mono ?_
      rintro e w' ⟨rfl,q,rfl⟩
      exact ⟨rfl,hbx.os,hbx.tape,hbx.output,hbx.size,hbx.block⟩
 obtain ⟨A,c,e,_⟩:=own_shape h.orow
 have hc:=hcall _ _ _ e
 rw [e] at c2
 obtain ⟨i,hi⟩:∃i,firstI (fun k=>decide (posK C k=pos)) ks 0=i:=⟨_,rfl⟩
 rw [hi] at hc
 rw [hi]
 subst hW
 clear hcall h hi hbx e hbk1 hbk2
 go_enter Tryz.func46,Tryz.ntmps46
 go_wp2_with fail
 refine hc.mono ?_
 rintro e w' ⟨rfl,hb⟩
 go_wp2_with fail
 go_ret
 exact ⟨rfl,hb⟩
end Go.Proofs.YtipaccakmndkgaaGreat
namespace Go.Proofs.YtipaccakmndkgaaGreat
open Go.RowKit
set_option linter.unusedVariables false
set_option linter.unusedSimpArgs false
set_option maxRecDepth 100000 in
set_option maxHeartbeats 1000000 in
theorem ArenaLive_any (ga:Nat) (A:Option Addr) (c:Nat) (Af:Option Addr) (cf N M:Nat) (w:World) (hb:Bk w ga 107 #[.slice A N c,.slice Af M cf,.int .i64 268435456]) (hN:N≤1048576) (hM:M≤N):
 Calls Tryz.prog 81 #[.pointer (some ⟨ga,0,none⟩)] w fun e w'=>e=.returned (.int .i64 ((N - M:Nat):Int))∧Below w.heap.size w w':=by
 have c0:w.cell? ⟨ga,0,none⟩=some (.slice A N c):=(hb.cell 0).trans rfl
 have c1:w.cell? ⟨ga,1,none⟩=some (.slice Af M cf):=(hb.cell 1).trans rfl
 have h64:IntKind.i64.wrap ((N:Int) -(M:Int))=((N - M:Nat):Int):=by rw [IntKind.wrap_i64];omega
 clear hb
 go_enter Tryz.func81,Tryz.ntmps81
 go_wp2
 go_quiet (fail)
 go_wp2
 go_ret
 exact ⟨ret_i64 (by omega),below_drewN (Below.refl _ _) _⟩
set_option maxRecDepth 100000 in
set_option maxHeartbeats 2000000 in
theorem TakeMore_any (B ga:Nat) (A:Option Addr) (c:Nat) (Af:Option Addr) (cf N:Nat) (tk:List Bool) (w:World) (hb:Bk w ga 107 #[.slice A N c,.slice Af 0 cf,.int .i64 268435456]) (hown:w.ownsRow B 4 1 (.slice A N c) N (tk.map Value.bool)) (hB:B≤w.heap.size) (hN:N≤1000000):
 Calls Tryz.prog 47 #[.pointer (some ⟨ga,0,none⟩)] w fun e w'=>e=.returned (.tuple #[.int .i64 (N:Int),.int .i64 0])∧Keep (fun b=>b=ga∨(Value.slice A N c).ownBlock=some b) w w'∧∃vt,Bk w' ga 107 #[vt,.slice Af 0 cf,.int .i64 268435456]∧w'.ownsRow B 4 1 vt (N+1) ((tk++ [true]).map Value.bool)∧(vt.ownBlock=(Value.slice A N c).ownBlock∨∃g,vt.ownBlock=some g∧w.heap.size≤g):=by
 obtain ⟨i0,hi0,hz0,hz1,hz2⟩:=info_parts bool_info
 have hgl:=hb.lt
 have Hb:=Lib.hid hb
 have Hown:=Lib.hid hown
 have Hne:=Lib.hid (own_bk_ne hown hb (by decide))
 clear hb hown
 go_enter Tryz.func47,Tryz.ntmps47
 go_wp2
 refine wp_region_any (by kernel_rfl) ?_
 refine wpAny_loose2 [10,11,12,13,14,15,16,9] (Grow) (Vs [is (.pointer (some ⟨ga,0,none⟩)),is (.int .i64 (N:Int)),is (.pointer (some ⟨ga,0,none⟩)),is (.pointer (some ⟨ga,0,none⟩)),is (.pointer (some ⟨ga,2,none⟩)),is (.int .i64 268435456),is (.bool false),is (.bool false)]) _ _ rfl (by kernel_rfl) (Below.refl _ _) (fun _ _=>Grow.trans) (stbs_all (by repeat' (first | exact stbs_is _ _ | exact stbs_any _ |(refine List.forall_mem_cons.2 ⟨?_,?_⟩)|(intro p hp;cases hp)))) ?_ ?_
 · refine steps_of ?_
   refine steps_cons (step_on rfl rfl fun ev _ _ _ _ hold _ _ _ _ hK=>?_) ?_
   · have e0:ev (.tmp 0)=.pointer (some ⟨ga,0,none⟩):=hold 0 (by kernel_rfl)
     go_simp
     exact hK _ _ ((Below.refl _ _)) rfl
   refine steps_cons (step_on rfl rfl fun _ w5 hS _ _ _ hval _ _ _ hK=>?_) ?_
   · have e10:_=_:=hval 0 10 (by kernel_rfl) rfl
     replace hS:(Grow) w w5:=⟨hS.os,hS.tape,hS.output,hS.size,hS.block⟩
     go_simp
     refine (ArenaLive_any ga A c Af cf N 0 w5 (Hb.out.below hS Hb.out.lt) (by omega) (by omega)).mono ?_
     rintro e w8 ⟨rfl,hb8⟩
     exact hK _ _ hb8 rfl
   refine steps_cons (step_on rfl rfl fun ev _ _ _ _ hold _ _ _ _ hK=>?_) ?_
   · have e0:ev (.tmp 0)=.pointer (some ⟨ga,0,none⟩):=hold 0 (by kernel_rfl)
     go_simp
     exact hK _ _ ((Below.refl _ _)) rfl
   refine steps_cons (step_on rfl rfl fun _ _ _ _ _ _ hval _ _ _ hK=>?_) ?_
   · have e12:_=_:=hval 2 12 (by kernel_rfl) rfl
     go_simp
     exact hK _ _ ((Below.refl _ _)) rfl
   refine steps_cons (step_on rfl rfl fun _ _ _ _ _ _ hval _ _ _ hK=>?_) ?_
   · have e13:_=_:=hval 3 13 (by kernel_rfl) rfl
     go_simp
     exact hK _ _ ((Below.refl _ _)) rfl
   refine steps_cons (step_on rfl rfl fun _ w5 hS _ _ _ hval _ _ _ hK=>?_) ?_
   · have e14:_=_:=hval 4 14 (by kernel_rfl) rfl
     replace hS:(Grow) w w5:=⟨hS.os,hS.tape,hS.output,hS.size,hS.block⟩
     have c15:w5.cell? ⟨ga,2,none⟩=some (.int .i64 268435456):=((Hb.out.below hS Hb.out.lt).cell 2).trans rfl
     go_simp
     exact hK _ _ ((Below.refl _ _)) rfl
   refine steps_cons (step_on rfl rfl fun _ _ _ _ _ _ hval _ _ _ hK=>?_) ?_
   · have e11:_=_:=hval 1 11 (by kernel_rfl) rfl
     have e15:_=_:=hval 5 15 (by kernel_rfl) rfl
     have hne:((N:Int)==268435456)=false:=by simp;omega
     go_simp
     exact hK _ _ (Below.refl _ _) (by first | rfl | simp [is] |(simp [is];omega))
   refine steps_cons (step_on rfl rfl fun _ _ _ _ _ _ hval _ _ _ hK=>?_) ?_
   · have e16:_=_:=hval 6 16 (by kernel_rfl) rfl
     go_simp
     exact hK _ _ ((Below.refl _ _)) rfl
   exact steps_nil
 · intro ev w6 hS hval
   replace hS:(Grow) w w6:=⟨hS.os,hS.tape,hS.output,hS.size,hS.block⟩
   have e9:ev (.tmp 9)=.bool false:=hval 7 9 rfl
   simp only [putsOf,List.foldl_cons,List.foldl_nil,Act.put,List.setIfInBounds_toArray,List.set_cons_zero,List.set_cons_succ]
   rw [e9]
   clear hval
   have hb2:=Hb.out.below hS Hb.out.lt
   have hsz2:=Below.size hS
   have hown2:=own_below Hown.out hS
   have c1:w6.cell? ⟨ga,1,none⟩=some (.slice Af 0 cf):=(hb2.cell 1).trans rfl
   have c0:w6.cell? ⟨ga,0,none⟩=some (.slice A N c):=(hb2.cell 0).trans rfl
   have f0:=hb2.frozen 0
   have hga6:ga < w6.heap.size:=by omega
   have HS2:=Lib.hid hS
   have Hb2:=Lib.hid hb2
   have Hown2:=Lib.hid hown2
   clear hS hb2 hown2
   generalize w6=W2 at Hb2 hsz2 c0 c1 f0 HS2 hga6 Hown2⊢
   have a0:=(World.cell?_alloc_lt W2 (Obj.cells #[.bool true] 4) ⟨ga,0,none⟩ hga6).trans c0
   go_wp2_with (at_builtin;refine wpList_push _ rfl (.tmp 53) (.tmp 54) _ rfl B 4 i0 (.bool false) 1 1 Tryz.underlying105 hi0 hz0 hz1 hz2 rfl (by decide) (.slice A N c) N _ rfl Hown2.out rfl rfl (by simp [Value.oneCell']) (by unfold maxLen;omega) (by omega) (by omega) ?_;intro v5 w5 hown5 hg5 hs5 hat5;have hbk5:=Hb2.out.grown hg5 Hne.out;have Hown5:=Lib.hid hown5;have Hg5:=Lib.hid hg5;have Hat5:=Lib.hid hat5;have Hbk5:=Lib.hid hbk5;have d0:w5.cell? ⟨ga,0,none⟩=some (.slice A N c):=(hbk5.cell 0).trans rfl;have g0:=hbk5.frozen 0;obtain ⟨A9,c9,rfl,hm9⟩:=made_of_own hown5;clear hown5 hg5 hat5 hbk5 hm9)
   go_ret2
   have hset:=Keep.setCell (F:=fun b=>b=ga∨(Value.slice A N c).ownBlock=some b) (Keep.refl _ w5) (p:=⟨ga,0,none⟩) (.inl (.inl rfl)) (.slice A9 (N+1) c9)
   have hk2:Keep (fun b=>b=ga∨(Value.slice A N c).ownBlock=some b) w W2:=Keep.of_below HS2.out
   have hk5:=hk2.grown Hg5.out (fun k hk=>.inl (.inr hk))
   refine ⟨rfl,hk5.trans' hset (fun b _ h=>h),_,Hbk5.out.set 0 _,?_,?_⟩
   · have:=own_same (w':=w5.setCell ⟨ga,0,none⟩ (.slice A9 (N+1) c9)) Hown5.out fun b cs _ hb'=>hb'.far (Bk.ne hb' Hbk5.out (by decide)) _
     simpa using this
   · rcases Hat5.out with h | h
     · exact .inl h
     · exact .inr ⟨_,h,by have:=HS2.out.size;omega⟩
set_option maxRecDepth 100000 in
set_option maxHeartbeats 1000000 in
theorem InsertEnd_any (B:Nat) (A:Option Addr) (n c:Nat) (xs:List Value) (Av:Option Addr) (cv k:Nat) (w:World) (hown:w.ownsRow B 3 1 (.slice A n c) n xs) (hr:Rd w w.heap.size 1 Av 1 [sv k]) (hB:B≤w.heap.size) (hn:n≤1000000):
 Calls Tryz.prog 48 #[.slice A n c,.int .i64 (n:Int),.slice Av 1 cv] w fun e w'=>∃v,e=.returned v∧w'.ownsRow B 3 1 v (n+1) (xs++ [sv k])∧w.grownBy w' (Value.slice A n c).ownBlock∧(v.ownBlock=(Value.slice A n c).ownBlock∨v.ownBlock=some w.heap.size):=by
 obtain ⟨i0,hi0,hz0,hz1,hz2⟩:=info_parts int_info
 have kc:=run_cut_lo (P:=Tryz.prog) 22 3 1 Tryz.underlying22 Tryz.sizeOf3 A n c n (Nat.le_refl _)
 have Hown:=Lib.hid hown
 have Hr:=Lib.hid hr
 clear hown hr
 go_enter Tryz.func48,Tryz.ntmps48
 go_wp2_with (at_builtin;refine wpList_append_rd _ rfl (.tmp 23) (.tmp 24) _ rfl B 3 i0 (.int .i64 0) 1 8 Tryz.underlying22 hi0 hz0 hz1 hz2 rfl (by decide) (.slice A n c) n _ rfl Hown.out w.heap.size Av 1 cv _ rfl Hr.out (by simp [Value.oneCell',sv]) (by unfold maxLen;omega) (by omega) hB ?_;intro v5 w5 hown5 hg5 hat5)
 go_ret
 exact ⟨v5,rfl,hown5,hg5,hat5⟩
end Go.Proofs.YtipaccakmndkgaaGreat
