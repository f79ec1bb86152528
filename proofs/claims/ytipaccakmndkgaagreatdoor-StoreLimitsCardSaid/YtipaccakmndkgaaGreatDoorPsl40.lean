/- Plain laws for an insert and a delete of a byte: the samples' gaps behind it, the symbols (plain Lean). No conditions. A text that may be edited (LiveE); the walk of live's Insert. Conditions: at most 126 bytes ahead; a rate from 1 to 64. -/
import Derived.Test.YtipaccakmndkgaaGreatDoorPsl39
set_option linter.unusedVariables false
set_option linter.unusedSimpArgs false
set_option maxRecDepth 100000
set_option maxHeartbeats 4000000
namespace Go.Proofs.YtipaccakmndkgaaGreatDoor
theorem symL_ins (t:List UInt8) {k:Nat} (b:UInt8) (h:k≤t.length):symL (insN t k b)=insN (symL t) k (b.toNat+1):=by
 unfold symL symB insN
 rw [List.map_append,List.map_cons,List.map_take,List.map_drop,List.take_append_of_le_length (by simpa using h),List.drop_append_of_le_length (by simpa using h)]
 simp
theorem set_perm {L:List Nat} {k s old:Nat} (h:L[k]?=some old):(old::L.set k s).Perm (s::L):=by
 obtain ⟨hk,e⟩:=List.getElem?_eq_some_iff.1 h
 have h1:L.set k s=L.take k++s::L.drop (k+1):=List.set_eq_take_append_cons_drop .. |>.trans (by rw [if_pos hk])
 have h2:L=L.take k++old::L.drop (k+1):=by
  conv=>lhs;rw [←List.take_append_drop k L]
  rw [List.drop_eq_getElem_cons hk,e]
 rw [h1]
 conv=>rhs;rw [h2]
 refine ((List.perm_middle).cons old).trans ?_
 refine (List.Perm.swap s old _).trans ?_
 exact ((List.perm_middle).symm.cons s)
section
variable {S S' : Nat → Prop} {r N at_ : Nat}
theorem pregap_ins (hg:GapOk S r N) (h0:S 0) (hle:∀s,S s→s≤N) (hr:1≤r) (hat:at_≤N) (hS:∀p,S' p↔∃s,S s∧p=sh at_ s):PreGap S' r (N+1) at_:=by
 have mk:∀s,S s→S' (sh at_ s):=fun s hs=>(hS _).2 ⟨s,hs,rfl⟩
 have hz:S' 0∨(at_=0∧S' 1):=by
  by_cases c:at_=0
  · right
    have:=mk 0 h0
    unfold sh at this
    rw [if_neg (by omega)] at this
    exact ⟨c,this⟩
  · left
    have:=mk 0 h0
    unfold sh at this
    rw [if_pos (by omega)] at this
    exact this
 refine ⟨fun p hp=>?_,fun p hp hc hN=>?_,fun p hp hN=>?_⟩
 · obtain ⟨s,hs,rfl⟩:=(hS p).1 hp
   have:=hle s hs
   unfold sh
   split <;> omega
 · by_cases hp':S' p
   · obtain ⟨s,hs,rfl⟩:=(hS p).1 hp'
     unfold sh at hc hN⊢
     by_cases c:s < at_
     · rw [if_pos c] at hc hN⊢
       obtain ⟨u,hu,h1,h2⟩:=hg s hs (by omega)
       have:=mk u hu
       unfold sh at this
       rw [if_pos (by omega)] at this
       exact ⟨u,this,h1,h2⟩
     · rw [if_neg c] at hc hN⊢
       obtain ⟨u,hu,h1,h2⟩:=hg s hs (by omega)
       have:=mk u hu
       unfold sh at this
       rw [if_neg (by omega)] at this
       exact ⟨u+1,this,by omega,by omega⟩
   · have e:p=0:=hp.resolve_left hp'
     subst e
     rcases hz with h |⟨_,h⟩
     · exact absurd h hp'
     · exact ⟨1,h,by omega,by omega⟩
 · by_cases hp':S' p
   · obtain ⟨s,hs,rfl⟩:=(hS p).1 hp'
     unfold sh at hN⊢
     by_cases c:s < at_
     · rw [if_pos c] at hN⊢
       obtain ⟨u,hu,h1,h2⟩:=hg s hs (by omega)
       have:=mk u hu
       unfold sh at this
       by_cases c2:u < at_
       · rw [if_pos c2] at this
         exact ⟨u,this,h1,by omega⟩
       · rw [if_neg c2] at this
         exact ⟨u+1,this,by omega,by omega⟩
     · rw [if_neg c] at hN⊢
       obtain ⟨u,hu,h1,h2⟩:=hg s hs (by omega)
       have:=mk u hu
       unfold sh at this
       rw [if_neg (by omega)] at this
       exact ⟨u+1,this,by omega,by omega⟩
   · have e:p=0:=hp.resolve_left hp'
     subst e
     rcases hz with h |⟨_,h⟩
     · exact absurd h hp'
     · exact ⟨1,h,by omega,by omega⟩
end
end Go.Proofs.YtipaccakmndkgaaGreatDoor
namespace Go.Proofs.YtipaccakmndkgaaGreatDoor
open Go.RowKit Go.Shelf
def LiveE (w:World) (B:Nat) (own:Nat→Nat) (gl:Nat) (t:List UInt8) (rate:Nat):Prop:=
 ∃gk gp mv T rs pr,TxM w B own gl gk gp rate mv (symL t) T t.length rs pr∧Smp pr 0∧GapOk (Smp pr) rate t.length
theorem LiveE.vis {w w':World} {B:Nat} {own:Nat→Nat} {gl:Nat} {t:List UInt8} {rate:Nat} (h:LiveE w B own gl t rate) (k:Vis w w'):LiveE w' B own gl t rate:=by
 obtain ⟨gk,gp,mv,T,rs,pr,h1,h2⟩:=h
 exact ⟨gk,gp,mv,T,rs,pr,h1.vis k,h2⟩
theorem LiveE.bnd {w:World} {B:Nat} {own:Nat→Nat} {gl:Nat} {t:List UInt8} {rate:Nat} (h:LiveE w B own gl t rate):∀b,own b≠0→B≤b∧b < w.heap.size:=by
 obtain ⟨gk,gp,mv,T,rs,pr,h1,h2⟩:=h
 exact h1.live.bnd
theorem TxM.len {w:World} {B:Nat} {own:Nat→Nat} {gl gk gp rate:Nat} {mv:Int} {t:List UInt8} {T:List Nat} {N:Nat} {rs:List Nat} {pr:List (Nat×Nat)} (h:TxM w B own gl gk gp rate mv (symL t) T N rs pr) (hN:t.length=N):(lastL (symL t) rs).length=N+1∧T.length=N+1∧rs.length=N+1:=by
 have h1:=h.suf.len
 rw [symL_len,hN] at h1
 have h2:(lastL (symL t) rs).length=N+1:=by rw [lastL_len,h1]
 exact ⟨h2,by rw [h.tal.length_eq,h2],h1⟩
theorem back_row {S R:List Nat} {N at_:Nat} (h:IsSuf S R) (he:EndOk S N) (h0:0 < at_) (ha:at_≤N):narL (lastL S R) (S.getD (at_ - 1) 0) (ro R at_)=ro R (at_ - 1)∧(lastL S R)[ro R at_]?=some (S.getD (at_ - 1) 0):=by
 have hl:=h.len
 have hS:=he.len
 have m1:at_∈R:=h.mem (by omega)
 have m2:at_ - 1∈R:=h.mem (by omega)
 have l1:ro R at_ < R.length:=List.idxOf_lt_length_iff.2 m1
 have l2:ro R (at_ - 1) < R.length:=List.idxOf_lt_length_iff.2 m2
 have e1:R[ro R at_]=at_ - 1+1:=by rw [List.getElem_idxOf];omega
 have e2:R[ro R (at_ - 1)]=at_ - 1:=List.getElem_idxOf _
 refine ⟨lf h he l1 l2 e1 e2,?_⟩
 have:=lastL_at he l1 e1 (by omega)
 rw [List.getElem?_eq_getElem (by rw [lastL_len];exact l1),this]
def InsE (w:World) (B:Nat) (own:Nat→Nat) (gl:Nat) (t:List UInt8) (rate:Nat) (e:Ending) (w':World):Prop:=e=.returned (.int .i64 0)∧∃own',LiveE w' B own' gl t rate∧LF B w w' own own'
theorem LInsert_any (w:World) (B:Nat) (own:Nat→Nat) (gl:Nat) (t:List UInt8) (rate at_:Nat) (b:UInt8) (h:LiveE w B own gl t rate) (hn:t.length≤126) (hat:at_≤t.length) (hr1:1≤rate) (hr2:rate≤64):
 Calls Tryz.prog 17 #[.pointer (some ⟨gl,0,none⟩),.int .i64 (at_:Int),.int .u8 (b.toNat:Int)] w (InsE w B own gl (insN t at_ b) rate):=by
 obtain ⟨gk,gp,mv,T,rs,pr,hx,hs0,hgap⟩:=h
 obtain ⟨N,hN⟩:∃N,t.length=N:=⟨_,rfl⟩
 have hN':=hN
 rw [hN] at hx hgap hn hat
 obtain ⟨hLl,hTl,hrl⟩:=hx.len hN
 have hend:=symL_end t
 rw [hN] at hend
 obtain ⟨s,hs⟩:∃s,b.toNat+1=s:=⟨_,rfl⟩
 have hs257:s < 257:=by have:=b.toNat_lt;omega
 have hsp:0 < s:=by omega
 obtain ⟨S,hS⟩:∃S,symL t=S:=⟨_,rfl⟩
 have hS2:symL (insN t at_ b)=insN S at_ s:=by rw [symL_ins t b (by omega),hS,hs]
 have hSl:=hend.len
 have hS257:∀x∈S,x < 257:=by rw [←hS];exact symL_lt t
 rw [hS] at hend hLl hSl
 obtain ⟨k,hk⟩:∃k,ro rs at_=k:=⟨_,rfl⟩
 have hsuf:=hx.suf
 rw [hS] at hsuf
 have hmem:∀p,p≤N→p∈rs:=fun p hp=>hsuf.mem (by omega)
 have hrk:rs[k]?=some at_:=by rw [←hk];exact ro_get (hmem at_ hat)
 have hkN:k < N+1:=by rw [←hrl];exact (List.getElem?_eq_some_iff.1 hrk).1
 obtain ⟨hrowle,hnear⟩:=near_ins hsuf hend (s:=s) hat hsp
 have hnd:rs.Nodup:=hsuf.nodup
 have hperm:rs.Perm (List.range (N+1)):=by have:=hsuf.perm;rwa [hSl] at this
 obtain ⟨row,hrow⟩:∃row,narL (lastL S rs) s (ro rs at_)=row:=⟨_,rfl⟩
 rw [hrow] at hrowle hnear
 have hL2:=lastL_ins hnd hperm hend (s:=s) (row:=row) hat hrowle
 obtain ⟨ri1,ri2,ri3⟩:=ro_ins hnd (at_:=at_) (row:=row) hrowle
 obtain ⟨R1,hR1⟩:∃R1,insN (rs.map (sh at_)) row at_=R1:=⟨_,rfl⟩
 rw [hR1] at hnear hL2 ri1 ri2 ri3
 rw [hk] at hrow hL2
 obtain ⟨L,hL⟩:∃L,lastL S rs=L:=⟨_,rfl⟩
 rw [hL] at hrow hL2 hLl
 obtain ⟨old,hold⟩:∃old,prevL S at_=old:=⟨_,rfl⟩
 rw [hold] at hL2
 have hLk:L[k]?=some old:=by
  rw [←hL,←hold]
  unfold lastL
  rw [List.getElem?_map,hrk]
  rfl
 have hL257:∀x∈L,x < 257:=by rw [←hL];exact lastL_lt hS257
 have hold257:old < 257:=hL257 old (List.mem_of_getElem? hLk)
 rw [hrl] at hrowle
 have hlive:=hx.live
 rw [hS,hL] at hlive
 have htal:=hx.tal
 rw [hS,hL] at htal
 have hset257:∀x∈L.set k s,x < 257:=fun x hxx=>by
  rcases List.mem_or_eq_of_mem_set hxx with h1 | h1
  · exact hL257 x h1
  · omega
 have hsetk:(L.set k s)[k]?=some s:=by rw [List.getElem?_set_self (by omega)]
 have hnar:narT (L.set k s) T s k=row:=by
  rw [←hrow]
  unfold narT narL
  rw [htal.countP_eq,List.take_set_of_le (Nat.le_refl _)]
 have htal2:(T++ [s]).Perm (lastL (insN S at_ s) R1):=by
  rw [hL2]
  refine (List.perm_append_comm).trans ?_
  refine ((htal.cons s).trans (set_perm hLk).symm).trans ?_
  exact (insN_perm _ _ _).symm
 have hpr2:∀x∈(pr.map fun x=>(inR x.1 row,x.2)).map (fun x=>(x.1,inR x.2 at_)),R1[x.1]?=some x.2:=fun x hxx=>by
  rw [List.map_map] at hxx
  obtain ⟨y,hy,rfl⟩:=List.mem_map.1 hxx
  have h1:=hx.right y hy
  have h2:=List.mem_of_getElem? h1
  have h3:=ri2 y.2 h2
  have h4:sh at_ y.2=inR y.2 at_:=by unfold sh inR;split <;> split <;> omega
  rw [ro_of hnd h1] at h3
  show R1[inR y.1 row]?=some (inR y.2 at_)
  rw [←h3,←h4]
  refine ro_get (hnear.mem.2 ?_)
  have:=hperm.mem_iff.1 h2
  rw [List.mem_range] at this
  unfold sh
  split <;> omega
 have hplc:∀p,Smp ((pr.map fun x=>(inR x.1 row,x.2)).map (fun x=>(x.1,inR x.2 at_))) p↔∃s,Smp pr s∧p=sh at_ s:=fun p=>by
  have h4:∀q,sh at_ q=inR q at_:=fun q=>by unfold sh inR;split <;> split <;> omega
  unfold Smp
  rw [List.map_map]
  constructor
  · rintro ⟨x,hxx,rfl⟩
    obtain ⟨y,hy,rfl⟩:=List.mem_map.1 hxx
    exact ⟨y.2,⟨y,hy,rfl⟩,(h4 _).symm⟩
  · rintro ⟨_,⟨y,hy,rfl⟩,rfl⟩
    exact ⟨_,List.mem_map.2 ⟨y,hy,rfl⟩,(h4 _).symm⟩
 have hple:∀s,Smp pr s→s≤N:=fun s ⟨x,hxx,e⟩=>by
  have:=(hlive.perm.2.2 x hxx).2
  omega
 have hpg:=fun (S':Nat→Prop) (hS':∀p,S' p↔∃s,Smp pr s∧p=sh at_ s)=>pregap_ins hgap hs0 hple hr1 hat hS'
 have hprne:pr≠ []:=fun e=>by
  obtain ⟨x,hxx,_⟩:=hs0
  rw [e] at hxx
  cases hxx
 obtain ⟨ah,hah⟩:∃ah:Int,(if at_=0 then -1 else ((ro rs (at_ - 1):Nat):Int))=ah:=⟨_,rfl⟩
 have hahead:∀w5,VB B w w5∨True→LiveM w5 B own gl gk gp rate 0 (N+1) (N+1) L T pr→Calls Tryz.prog 58 #[.pointer (some ⟨gl,0,none⟩),.int .i64 (at_:Int),.int .i64 (k:Int)] w5 fun e w'=>e=.returned (.int .i64 ah)∧VB B w5 w':=fun w5 _ h5=>by
  by_cases c:at_=0
  · rw [if_pos c] at hah
    subst c hah
    refine (LAhead0_any k w5 gl).mono ?_
    rintro e w' ⟨rfl,rfl⟩
    exact ⟨rfl,VisK.refl _ _⟩
  · rw [if_neg c] at hah
    obtain ⟨b1,b2⟩:=back_row hsuf hend (by omega) hat
    rw [hL,hk] at b1 b2
    have:=LAhead_any at_ k (S.getD (at_ - 1) 0) h5 (by omega) b2 hL257 (by omega) (by omega)
    rw [narT_perm htal,b1,hah] at this
    exact this
 have haOf:inI ah (row:Int)=aOf R1 at_:=by
  rw [←hah]
  unfold aOf
  by_cases c:at_=0
  · rw [if_pos c,if_pos c,inI_neg]
  · rw [if_neg c,if_neg c,inI_nat]
    have h3:=ri2 (at_ - 1) (hmem _ (by omega))
    rw [show sh at_ (at_ - 1)=at_ - 1 by unfold sh;rw [if_pos (by omega)]] at h3
    rw [h3]
 have hahb:-1000000≤ah∧ah≤1000000:=by
  rw [←hah]
  by_cases c:at_=0
  · rw [if_pos c];omega
  · rw [if_neg c]
    have l2:ro rs (at_ - 1) < rs.length:=List.idxOf_lt_length_iff.2 (hmem (at_ - 1) (by omega))
    omega
 have H:=lhd hx
 have Hlive:=lhd hlive
 have Htal:=lhd htal
 have HN:=lhd hN'
 have HS:=lhd hS
 have HS2:=lhd hS2
 have HLl:=lhd hLl
 have HTl:=lhd hTl
 have HL257:=lhd hL257
 have HLk:=lhd hLk
 have Hrk:=lhd hrk
 have Hset257:=lhd hset257
 have Hsetk:=lhd hsetk
 have Hnar:=lhd hnar
 have HL2:=lhd hL2
 have Htal2:=lhd htal2
 have Hpr2:=lhd hpr2
 have Hplc:=lhd hplc
 have Hpg:=lhd hpg
 have Hnear:=lhd hnear
 have Hri1:=lhd ri1
 have HaOf:=lhd haOf
 have Hahead:=lhd hahead
 have Hprne:=lhd hprne
 have Hs:=lhd hs
 have HS257:=lhd hS257
 have HL:=lhd hL
 have hatI:(at_:Int)≤(N:Int):=by omega
 have hlen0:=LiveLen_any B gl L N w (hlive.g htal).lvw hLl (by omega)
 have hblk0:=hlive.blk
 have hrt:=hx.right
 have hsf:=hx.suf
 have Hrt:=lhd hrt
 have Hsf:=lhd hsf
 have Hblk0:=lhd hblk0
 clear hrt hsf hblk0
 unfold InsE
 clear hx hlive htal hN hN' hS hS2 hLl hTl hL257 hLk hrk hset257 hsetk hnar hL2 htal2 hpr2 hplc hpg hnear ri1 ri2 ri3 haOf hahead hprne hs hS257 hgap hs0 hsuf hmem hend hperm hnd hrow hR1 hold hrl hSl hple hk hah hL
 go_enter Tryz.func17,Tryz.ntmps17
 go_wp2_with fail
 refine hlen0.mono ?_
 clear hlen0
 rintro e w1 ⟨rfl,rfl⟩
 go_wp2_with fail
 refine (Asks_ok gl _ _ _ mv (at_:Int) (N:Int) w Hblk0.out (by omega) hatI).mono ?_
 rintro e w1 ⟨rfl,rfl⟩
 obtain ⟨hl1,hf1⟩:=Hlive.out.setMv 0
 have Hl1:=lhd hl1
 have Hf1:=lhd hf1
 clear hl1 hf1 Hblk0 Hlive H
 generalize w.setCell ⟨gl,3,none⟩ (.int .i64 0)=w1 at Hl1 Hf1⊢
 go_wp2_with fail
 refine (SymOf_any b w1).mono ?_
 rintro e w2 ⟨rfl,hb2⟩
 rw [Hs.out]
 have hv2:VB B w1 w2:=VisK.of_below hb2
 have hl2:=Hl1.out.vis hv2.1
 have Hf2:=lhd (Hf1.out.trans (LF.of_vb (own:=own) hv2))
 have Hl2:=lhd hl2
 clear hb2 hv2 hl2
 have hrowc:Calls Tryz.prog 56 #[.pointer (some ⟨gl,0,none⟩),.int .i64 (at_:Int)] w2 fun e w'=>e=.returned (.int .i64 (k:Int))∧VB B w2 w':=by
  have hg:=Hl2.out.g Htal.out
  have:=LiveRowG_any B gl gk gp rate t rs pr k at_ w2 (by rw [HN.out,HS.out];rw [HL.out];exact hg) Hrt.out Hsf.out (by rw [HN.out];omega) Hrk.out
  exact this
 go_wp2_with fail
 refine hrowc.mono ?_
 clear hrowc
 rintro e w3 ⟨rfl,hv3⟩
 have Hl3:=lhd (Hl2.out.vis hv3.1)
 have Hf3:=lhd (Hf2.out.trans (LF.of_vb (own:=own) hv3))
 clear hv3 Hl2 Hf2 Hl1 Hf1
 obtain ⟨gv,gt,hgw,hwv⟩:=Hl3.out.gw
 have q0:=Hl3.out.blk.cell 0
 have q1:=hgw.cell 0
 have hget:=WaveGet_any B gv L k old w3 hwv (by rw [HLl.out];exact hkN) (by have h9:=HLk.out;rw [List.getElem?_eq_getElem (by rw [HLl.out];exact hkN)] at h9;injection h9) HL257.out (by rw [HLl.out];omega)
 clear hgw hwv
 go_wp2_with fail
 refine hget.mono ?_
 clear hget
 rintro e w4 ⟨rfl,hv4⟩
 have Hl4:=lhd (Hl3.out.vis hv4.1)
 have Hf4:=lhd (Hf3.out.trans (LF.of_vb (own:=own) hv4))
 clear hv4 q0 q1 Hl3 Hf3
 have hahc:=Hahead.out w4 (.inr trivial) Hl4.out
 clear Hahead
 go_wp2_with fail
 refine hahc.mono ?_
 clear hahc
 rintro e w5 ⟨rfl,hv5⟩
 have Hl5:=lhd (Hl4.out.vis hv5.1)
 have Hf5:=lhd (Hf4.out.trans (LF.of_vb (own:=own) hv5))
 clear hv5 Hl4 Hf4
 have q0:=Hl5.out.blk.cell 0
 have hch:=WalkChange_any B gk own L T k old s w5 Hl5.out.walk HLk.out hs257 HL257.out (by rw [HLl.out];omega)
 go_wp2_with fail
 refine hch.mono ?_
 clear hch
 rintro e w6 ⟨rfl,own1,hE6,hG6⟩
 obtain ⟨hl6,hf6⟩:=Hl5.out.walkOp hE6 hG6
 have Hl6:=lhd hl6
 have Hf6:=lhd (Hf5.out.trans hf6)
 clear hl6 hf6 hE6 hG6 q0 Hl5 Hf5
 have hto:=LTo_any k s Hl6.out Hsetk.out Hset257.out (by rw [List.length_set,HLl.out];omega) (by rw [HTl.out];omega)
 rw [Hnar.out] at hto
 go_wp2_with fail
 refine hto.mono ?_
 clear hto
 rintro e w7 ⟨rfl,hv7⟩
 have Hl7:=lhd (Hl6.out.vis hv7.1)
 have Hf7:=lhd (Hf6.out.trans (LF.of_vb (own:=own1) hv7))
 clear hv7 Hl6 Hf6
 have q0:=Hl7.out.blk.cell 0
 have hput:=WalkPut_any B gk own1 (L.set k s) T row old w7 Hl7.out.walk hold257 (by rw [List.length_set,HLl.out];exact hrowle) Hset257.out (by rw [List.length_set,HLl.out];omega)
 go_wp2_with fail
 refine hput.mono ?_
 clear hput
 rintro e w8 ⟨rfl,own2,hE8,hG8⟩
 obtain ⟨hl8,hf8⟩:=Hl7.out.walkOp hE8 hG8
 have Hl8:=lhd hl8
 have Hf8:=lhd (Hf7.out.trans hf8)
 clear hl8 hf8 hE8 hG8 q0 Hl7 Hf7
 have q0:=Hl8.out.blk.cell 0
 have hcnt:=WalkCountIn_any B gk own2 _ T s w8 Hl8.out.walk hs257 (by rw [HTl.out];omega)
 go_wp2_with fail
 refine hcnt.mono ?_
 clear hcnt
 rintro e w9 ⟨rfl,hE9,hG9⟩
 obtain ⟨hl9,hf9⟩:=Hl8.out.walkOp hE9 hG9
 have Hl9:=lhd hl9
 have Hf9:=lhd (Hf8.out.trans hf9)
 clear hl9 hf9 hE9 hG9 q0 Hl8 Hf8
 have q1:w9.cell? ⟨gl,1,none⟩=some (.pointer (some ⟨gp,0,none⟩)):=(Hl9.out.blk.cell 1).trans rfl
 have hri:=PermRowIn_any (fun b=>own2 b=1) gp (N+1) (N+1) row pr w9 Hl9.out.perm hrowle (by omega) (by omega)
 go_wp2_with fail
 refine hri.mono ?_
 clear hri
 rintro e wA ⟨rfl,hPA,hkA⟩
 obtain ⟨hlA,hfA⟩:=Hl9.out.permOp (hPA.mono fun b _ f=>.inl f) hkA
 obtain ⟨own3,ho3⟩:∃o,recol own2 w9.heap.size wA.heap.size 1=o:=⟨_,rfl⟩
 rw [ho3] at hlA hfA
 have HlA:=lhd hlA
 have HfA:=lhd (Hf9.out.trans hfA)
 clear hlA hfA hPA hkA q1 Hl9 Hf9 ho3
 have q1:wA.cell? ⟨gl,1,none⟩=some (.pointer (some ⟨gp,0,none⟩)):=(HlA.out.blk.cell 1).trans rfl
 have hpi:=PermPosIn_any (fun b=>own3 b=1) gp (N+1+1) (N+1) at_ _ wA HlA.out.perm (by omega) (by omega) (by omega)
 go_wp2_with fail
 refine hpi.mono ?_
 clear hpi
 rintro e wB ⟨rfl,hPB,hkB⟩
 obtain ⟨hlB,hfB⟩:=HlA.out.permOp (hPB.mono fun b _ f=>.inl f) hkB
 obtain ⟨own4,ho4⟩:∃o,recol own3 wA.heap.size wB.heap.size 1=o:=⟨_,rfl⟩
 rw [ho4] at hlB hfB
 have HlB:=lhd hlB
 have HfB:=lhd (HfA.out.trans hfB)
 clear hlB hfB hPB hkB q1 HlA HfA ho4
 have hin:=In_any2 ah (row:Int) wB hahb
 rw [HaOf.out] at hin
 go_wp2_with fail
 refine hin.mono ?_
 clear hin
 rintro e wC ⟨rfl,rfl⟩
 have hreo:=Reorder_any w wB B own own4 gl gk gp rate 0 (insN S at_ s) (T++ [s]) (N+1) at_ R1 ((pr.map fun x=>(inR x.1 row,x.2)).map (fun x=>(x.1,inR x.2 at_))) _ ⟨Hnear.out,by rw [HL2.out];exact HlB.out,Htal2.out,Hpr2.out,fun p=>Iff.rfl,fun _ e=>Hprne.out (by simpa using e),HfB.out⟩ (by omega) (by omega) (insN_lt HS257.out hs257)
 rw [Hri1.out] at hreo
 unfold ReoPost at hreo
 go_wp2_with fail
 refine hreo.mono ?_
 clear hreo
 rintro e wD ⟨rfl,own5,mv5,R5,pr5,hI⟩
 have htl:(insN t at_ b).length=N+1:=by rw [insN_len _ _ (by rw [HN.out];exact hat),HN.out]
 have htx:TxM wD B own5 gl gk gp rate mv5 (symL (insN t at_ b)) (T++ [s]) (N+1) R5 pr5:=by
  rw [HS2.out]
  exact ⟨hI.near.sorted,hI.live,hI.tal,hI.right⟩
 have hfill:=Fill_any wD B own5 gl gk gp rate mv5 (insN t at_ b) (T++ [s]) (N+1) at_ R5 pr5 htx htl (by omega) (by omega) hr1 hr2 (Hpg.out (Smp pr5) fun p=>(hI.plc p).trans (Hplc.out p))
 unfold FillPost at hfill
 have HlfD:=lhd hI.lf
 have Htl:=lhd htl
 clear htx htl hI
 go_wp2_with fail
 refine hfill.mono ?_
 clear hfill
 rintro e wE ⟨rfl,own6,pr6,htx6,hs6,hg6,hf6⟩
 have Htx6:=lhd htx6
 have Hs6:=lhd hs6
 have Hg6:=lhd hg6
 have Hf6:=lhd (HlfD.out.trans hf6)
 clear htx6 hs6 hg6 hf6 HlfD
 go_wp2_with fail
 go_ret
 exact ⟨rfl,own6,⟨gk,gp,mv5,T++ [s],R5,pr6,by rw [Htl.out];exact Htx6.out,Hs6.out,by rw [Htl.out];exact Hg6.out⟩,Hf6.out⟩
end Go.Proofs.YtipaccakmndkgaaGreatDoor
