/- A text by any right pairs (LiveG): the walk of live's Row. Conditions: a text of at most 127 bytes. Plain laws for sorted.Back: where a transform's rows lead. No conditions. The walks of perm's each, with the closures of RowIn, RowOut, RowMove, PosIn, PosOut. Conditions: at most 2^20 pairs. Plain laws for an edit: the next row that may stand wrong, the start behind an insert and a delete (plain Lean). No conditions. -/
import Derived.Test.YtipaccakmndkgaaGreatDoorPsl28
import Derived.Test.YtipaccakmndkgaaGreatDoorPsl29
import Derived.Test.YtipaccakmndkgaaGreatDoorPsl19
import Derived.Test.YtipaccakmndkgaaGreatDoorPsl17
import Derived.BigQuiet
set_option linter.unusedVariables false
set_option linter.unusedSimpArgs false
set_option maxRecDepth 100000
set_option maxHeartbeats 4000000
namespace Go.Proofs.YtipaccakmndkgaaGreatDoor
open Go.RowKit
structure LiveG (w:World) (Bw gl gk gp rate n:Nat) (L:List Nat) (pr:List (Nat×Nat)):Prop where
 blk:∃mv:Int,Bk w gl 87 #[.pointer (some ⟨gk,0,none⟩),.pointer (some ⟨gp,0,none⟩),.int .i64 (rate:Int),.int .i64 mv]
 walk:WalkAt w Bw gk L
 perm:PermR w gp n n pr
theorem LiveG.vis {w w':World} {Bw gl gk gp rate n:Nat} {L:List Nat} {pr:List (Nat×Nat)} (h:LiveG w Bw gl gk gp rate n L pr) (k:Vis w w'):LiveG w' Bw gl gk gp rate n L pr:=by
 obtain ⟨mv,h1⟩:=h.blk
 exact ⟨⟨mv,k.bk h1 (by decide) (by decide)⟩,h.walk.vis k,h.perm.vis k⟩
theorem LiveG.lvw {w:World} {Bw gl gk gp rate n:Nat} {L:List Nat} {pr:List (Nat×Nat)} (h:LiveG w Bw gl gk gp rate n L pr):LvW w Bw gl L:=by
 obtain ⟨mv,h1⟩:=h.blk
 exact ⟨gk,_,_,_,h1,h.walk⟩
theorem LiveG.mono {w:World} {Bw B' gl gk gp rate n:Nat} {L:List Nat} {pr:List (Nat×Nat)} (h:LiveG w Bw gl gk gp rate n L pr) (hB:B'≤Bw):LiveG w B' gl gk gp rate n L pr:=⟨h.blk,h.walk.mono hB,h.perm⟩
theorem LiveG.lt {w:World} {Bw gl gk gp rate n:Nat} {L:List Nat} {pr:List (Nat×Nat)} (h:LiveG w Bw gl gk gp rate n L pr):gl < w.heap.size:=h.lvw.lt
theorem range_pairs (C:List (Nat×Nat)):C=(List.range C.length).map fun k=>(rowK C k,posK C k):=by
 apply List.ext_getElem?
 intro i
 rw [List.getElem?_map]
 by_cases h:i < C.length
 · rw [List.getElem?_range h,List.getElem?_eq_getElem h]
   unfold rowK posK
   rw [Option.map_some,List.getD_eq_getElem?_getD,List.getElem?_eq_getElem h]
   rfl
 · rw [List.getElem?_eq_none (by omega),List.getElem?_eq_none (by simpa using h)]
   rfl
theorem LiveAt.g {w:World} {Bw gl gk gp ga:Nat} {vl vo vt:Value} {B n rate:Nat} {L:List Nat} {C:List (Nat×Nat)} {tk:List Bool} (h:LiveAt w Bw gl gk gp ga vl vo vt B n rate L C tk) (hC:C.Pairwise (fun a b=>a.1 < b.1)) (hl:C.length≤1000):LiveG w Bw gl gk gp rate n L C:=
 ⟨⟨0,h.blk⟩,h.walk,B,ga,vl,vo,vt,_,_,C,tk, [],h.perm,range_sorted C hC,hl,by rw [List.length_range];exact hl,range_pairs C⟩
theorem samp_right {rs:List Nat} {rate n:Nat} (hn:n≤rs.length):∀x∈sampC rs rate n,rs[x.1]?=some x.2:=fun x hx=>by
 obtain ⟨h1,h2⟩:=sampC_mem hx
 rw [h2,List.getD_eq_getElem?_getD,List.getElem?_eq_getElem (show x.1 < rs.length by omega)]
 rfl
theorem samp_zero {t:List UInt8} {rs:List Nat} {rate:Nat} (hs:IsSuf (symL t) rs):∃x∈sampC rs rate (t.length+1),x.2=0:=by
 obtain ⟨j,hj,ej⟩:=hs.row (p:=0) (by rw [symL_len];omega)
 refine ⟨(j,0),(sampM _ _ _ _ _).2 ⟨?_,?_,Nat.zero_mod _⟩,rfl⟩
 · have:=hs.len
   rw [symL_len] at this
   omega
 · rw [List.getD_eq_getElem?_getD,List.getElem?_eq_getElem hj,ej]
   rfl
theorem LiveRowG_any (Bw gl gk gp rate:Nat) (t:List UInt8) (rs:List Nat) (C:List (Nat×Nat)) (i p:Nat) (w:World) (h:LiveG w Bw gl gk gp rate (t.length+1) (lastL (symL t) rs) C) (hrt:∀x∈C,rs[x.1]?=some x.2) (hs:IsSuf (symL t) rs) (hn:t.length≤127) (hip:rs[i]?=some p):
 Calls Tryz.prog 56 #[.pointer (some ⟨gl,0,none⟩),.int .i64 (p:Int)] w fun e w'=>e=.returned (.int .i64 (i:Int))∧VB Bw w w':=by
 have hl:rs.length=t.length+1:=by rw [hs.len,symL_len]
 have hL:(lastL (symL t) rs).length=t.length+1:=by rw [lastL_len,hl]
 have hpN:p < t.length+1:=by
  have:=hs.lt (List.mem_of_getElem? hip)
  rwa [symL_len] at this
 have hr0:=row_zero hs
 obtain ⟨N,hN⟩:∃N,t.length=N:=⟨_,rfl⟩
 have hstep:∀a b:Nat,rs[a]?=some (b+1)→∃s a',(lastL (symL t) rs)[a]?=some s∧narL (lastL (symL t) rs) s a=a'∧rs[a']?=some b:=fun a b hab=>by
  obtain ⟨ha,ea⟩:=List.getElem?_eq_some_iff.1 hab
  have hbm:b+1 < (symL t).length:=hs.lt (List.mem_of_getElem? hab)
  obtain ⟨a',ha',ea'⟩:=hs.row (p:=b) (by omega)
  have he:=symL_end t
  have hla:=lastL_at he ha ea (by rw [symL_len] at hbm;omega)
  exact ⟨(symL t).getD b 0,a',List.getElem?_eq_some_iff.2 ⟨_,hla⟩,lf hs he ha ha' ea ea',List.getElem?_eq_some_iff.2 ⟨ha',ea'⟩⟩
 have hle:∀a b:Nat,rs[a]?=some b→b≤t.length∧a≤t.length:=fun a b hab=>by
  have h1:=hs.lt (List.mem_of_getElem? hab)
  rw [symL_len] at h1
  have h2:=(List.getElem?_eq_some_iff.1 hab).1
  omega
 have huni:∀a,rs[a]?=some p→a=i:=fun a ha=>row_inj hs ha hip
 rw [hN] at h
 rw [hN] at hL hpN hn hl hr0 hle
 have hp0:decide ((p:Int) < 0)=false:=by simp
 have hp1:¬N < p:=by omega
 have hp2:decide (N < p)=false:=decide_eq_false hp1
 have H:=lhd h
 have Hr0:=lhd hr0
 have HCm:=lhd hrt
 have Hstep:=lhd hstep
 have Hle:=lhd hle
 have Huni:=lhd huni
 have HL:=lhd hL
 have HLt:=lhd (lastL_lt (symL_lt t) (rs:=rs))
 obtain ⟨mv,hblk⟩:=h.blk
 have c0:=hblk.cell 0
 have c1:=hblk.cell 1
 have hlt:=hblk.lt
 clear h hr0 hrt hstep hle huni hL hs hip hN hl hblk
 go_enter Tryz.func56,Tryz.ntmps56
 go_wp2_with fail
 refine (LiveLen_any Bw gl _ N w H.out.lvw HL.out (by omega)).mono ?_
 rintro e w1 ⟨rfl,rfl⟩
 go_wp2_with fail
 refine (LiveLen_any Bw gl _ N w H.out.lvw HL.out (by omega)).mono ?_
 rintro e w1 ⟨rfl,rfl⟩
 go_wp2_with fail
 have hnext:=PermNextG_any gp (N+1) (N+1) C p w H.out.perm
 unfold LeastPost at hnext
 refine hnext.mono ?_
 rintro e w2 ⟨z,rfl,hz,hb2⟩
 clear hnext
 have hv2:VB Bw w w2:=VisK.of_below hb2
 have h2:=H.out.vis hv2.1
 obtain ⟨mv2,hblk2⟩:=h2.blk
 have c20:=hblk2.cell 0
 have c21:=hblk2.cell 1
 have hlt2:=hblk2.lt
 have H2:=lhd h2
 have Hv2:=lhd hv2
 clear hb2 hv2 h2 c0 c1 hlt hblk2
 rcases hz with ⟨hz,_⟩|⟨⟨k1,q⟩,hk,hz,hkp,_⟩
 · subst hz
   go_wp2_with fail
   go_loopw [5,6] (fun x y wr=>∃a r:Nat,p≤a∧a≤N∧rs[r]?=some a∧x=.int .i64 (a:Int)∧y=.int .i64 (r:Int)∧VB Bw w wr) (fun x _ _=>(intOf x).toNat)
   case atStart=>exact ⟨N,0,by omega,Nat.le_refl _,Hr0.out,rfl,rfl,Hv2.out⟩
   case round=>
    obtain ⟨a,r,hpa,haN,hra,rfl,rfl,hv⟩:=hrel
    have h1:=H.out.vis hv.1
    obtain ⟨mv1,hblk1⟩:=h1.blk
    have c10:=hblk1.cell 0
    have hlt1:=hblk1.lt
    have Hv:=lhd hv
    have H1:=lhd h1
    have Hra:=lhd hra
    clear h1 hv hra hblk1
    by_cases hap:p < a
    · obtain ⟨b,hb⟩:∃b,a=b+1:=⟨a - 1,by omega⟩
      obtain ⟨s,r',hs1,hs2,hs3⟩:=Hstep.out r b (by rw [←hb];exact Hra.out)
      have e1:IntKind.i64.wrap ((a:Int) - 1)=(b:Int):=by rw [IntKind.wrap_i64];omega
      have Hs1:=lhd hs1
      have Hs2:=lhd hs2
      have Hs3:=lhd hs3
      have hbp:p≤b:=by omega
      have hbN:b < a:=by omega
      clear hs1 hs2 hs3 hb
      go_wp2_with fail
      refine (WalkBack_any Bw gk _ r s wr H1.out.walk Hs1.out HLt.out (by rw [HL.out];omega)).mono ?_
      rintro e w5 ⟨rfl,hv5⟩
      rw [Hs2.out]
      have hv6:=Hv.out.trans hv5
      have Hv6:=lhd hv6
      clear hv5 hv6
      go_wp2_with fail
      go_roundw
      case rel=>exact ⟨b,r',hbp,by omega,Hs3.out,by go_num,by first | rfl | trivial,Hv6.out⟩
      case measure=>simp [intOf];omega
    · obtain rfl:a=p:=by omega
      have hri:=Huni.out r Hra.out
      subst hri
      go_wp2_with fail
      go_ret
      exact ⟨rfl,Hv.out⟩
 · subst hz
   have hkp:p≤q:=hkp
   have hex:∃x∈C,x.2=q:=⟨_,hk,rfl⟩
   have hq0:decide ((q:Int)≥0)=true:=by simp
   go_wp2_with fail
   have hrow:=PermRowR_any gp (N+1) (N+1) C q w2 H2.out.perm hex
   unfold RowPostR at hrow
   refine hrow.mono ?_
   rintro e w3 ⟨r0,hrm,rfl,hb3⟩
   have hrq:=HCm.out _ hrm
   have hrq:rs[r0]?=some q:=hrq
   have hv3:=Hv2.out.below hb3
   have Hrq:=lhd hrq
   have Hv3:=lhd hv3
   have hqN:=(Hle.out r0 q hrq).1
   clear hrow hrm hrq hb3 hv3 hex c20 c21 hlt2 hq0
   go_wp2_with fail
   go_loopw [5,6] (fun x y wr=>∃a r:Nat,p≤a∧a≤N∧rs[r]?=some a∧x=.int .i64 (a:Int)∧y=.int .i64 (r:Int)∧VB Bw w wr) (fun x _ _=>(intOf x).toNat)
   case atStart=>exact ⟨q,r0,hkp,hqN,Hrq.out,rfl,rfl,Hv3.out⟩
   case round=>
    obtain ⟨a,r,hpa,haN,hra,rfl,rfl,hv⟩:=hrel
    have h1:=H.out.vis hv.1
    obtain ⟨mv1,hblk1⟩:=h1.blk
    have c10:=hblk1.cell 0
    have hlt1:=hblk1.lt
    have Hv:=lhd hv
    have H1:=lhd h1
    have Hra:=lhd hra
    clear h1 hv hra hblk1
    by_cases hap:p < a
    · obtain ⟨b,hb⟩:∃b,a=b+1:=⟨a - 1,by omega⟩
      obtain ⟨s,r',hs1,hs2,hs3⟩:=Hstep.out r b (by rw [←hb];exact Hra.out)
      have e1:IntKind.i64.wrap ((a:Int) - 1)=(b:Int):=by rw [IntKind.wrap_i64];omega
      have Hs1:=lhd hs1
      have Hs2:=lhd hs2
      have Hs3:=lhd hs3
      have hbp:p≤b:=by omega
      have hbN:b < a:=by omega
      clear hs1 hs2 hs3 hb
      go_wp2_with fail
      refine (WalkBack_any Bw gk _ r s wr H1.out.walk Hs1.out HLt.out (by rw [HL.out];omega)).mono ?_
      rintro e w5 ⟨rfl,hv5⟩
      rw [Hs2.out]
      have hv6:=Hv.out.trans hv5
      have Hv6:=lhd hv6
      clear hv5 hv6
      go_wp2_with fail
      go_roundw
      case rel=>exact ⟨b,r',hbp,by omega,Hs3.out,by go_num,by first | rfl | trivial,Hv6.out⟩
      case measure=>simp [intOf];omega
    · obtain rfl:a=p:=by omega
      have hri:=Huni.out r Hra.out
      subst hri
      go_wp2_with fail
      go_ret
      exact ⟨rfl,Hv.out⟩
end Go.Proofs.YtipaccakmndkgaaGreatDoor
namespace Go.Proofs.YtipaccakmndkgaaGreatDoor
theorem last_zero {t:List UInt8} {rs:List Nat} (h:IsSuf (symL t) rs) {r:Nat} (hr:rs[r]?=some 0):(lastL (symL t) rs)[r]?=some 0:=by
 unfold lastL
 rw [List.getElem?_map,hr]
 obtain ⟨e1,e2,e3⟩:=symL_end t
 show some (prevL (symL t) 0)=some 0
 rw [prevL_zero (by omega),e1]
 have:t.length+1 - 1=t.length:=by omega
 rw [this,e2]
theorem count_zero {t:List UInt8} {rs:List Nat} (h:IsSuf (symL t) rs):(lastL (symL t) rs).count 0=1:=by
 obtain ⟨e1,e2,e3⟩:=symL_end t
 unfold lastL
 rw [List.count_eq_countP,List.countP_map,h.count,e1,count_prev (m:=t.length) _ (fun p=>(symL t).getD p 0==0)]
 · rw [List.range_succ,List.countP_append]
   have h0:(List.range t.length).countP (fun p=>(symL t).getD p 0==0)=0:=List.countP_eq_zero.2 fun p hp hz=>by
    have:=e3 p (List.mem_range.1 hp)
    rw [beq_iff_eq] at hz
    omega
   rw [h0]
   simp only [List.countP_singleton,e2]
   rfl
 · simp only [Function.comp]
   rw [prevL_zero (by omega),e1]
   congr 2
 · intro p hp
   simp only [Function.comp]
   rw [prevL_succ (by omega)]
theorem narL_step {L:List Nat} {k x:Nat} (hx:L[k]?=some x) (s:Nat):narL L s (k+1)=if s=x then narL L s k+1 else narL L s k:=by
 unfold narL
 rw [List.take_add_one,hx,List.count_append]
 by_cases e:s=x
 · subst e
   rw [if_pos rfl]
   simp
   omega
 · rw [if_neg e]
   have:([x]:List Nat).count s=0:=by
    rw [List.count_eq_zero]
    intro h
    simp at h
    exact e h
   show _+((L.take k).count s+ [x].count s)=_
   rw [this,Nat.add_zero]
end Go.Proofs.YtipaccakmndkgaaGreatDoor
namespace Go.Proofs.YtipaccakmndkgaaGreatDoor
open Go.RowKit
theorem pairsL_set0 (C:List (Nat×Nat)) (k r:Nat) (hk:k < C.length):(pairsL C).set (k*2) (.int .i64 (r:Int))=pairsL (C.set k (r,posK C k)):=by
 apply List.ext_getElem?
 intro j
 have hl:=pairsL_len C
 have hl2:=pairsL_len (C.set k (r,posK C k))
 rw [List.length_set] at hl2
 rw [List.getElem?_set]
 by_cases hj:j < C.length*2
 · have hi:j / 2 < C.length:=by omega
   obtain ⟨p0,p1⟩:=pairsL_get C (j / 2) hi
   obtain ⟨q0,q1⟩:=pairsL_get (C.set k (r,posK C k)) (j / 2) (by rw [List.length_set];exact hi)
   have er:rowK (C.set k (r,posK C k)) (j / 2)=if k=j / 2 then r else rowK C (j / 2):=by
    unfold rowK
    rw [List.getD_eq_getElem?_getD,List.getElem?_set,List.getD_eq_getElem?_getD]
    by_cases c:k=j / 2
    · simp [c,hi]
    · simp [c]
   have ep:posK (C.set k (r,posK C k)) (j / 2)=posK C (j / 2):=by
    unfold posK
    rw [List.getD_eq_getElem?_getD,List.getElem?_set,List.getD_eq_getElem?_getD,List.getD_eq_getElem?_getD]
    by_cases c:k=j / 2
    · subst c
      simp [hi]
    · simp [c]
   rw [er] at q0
   rw [ep] at q1
   by_cases ho:j % 2=0
   · have e:j / 2*2=j:=by omega
     rw [e] at p0 q0
     rw [q0]
     by_cases c:k*2=j
     · rw [if_pos c,if_pos (by omega),if_pos (by omega)]
     · rw [if_neg c,p0,if_neg (by omega)]
   · have e:j / 2*2+1=j:=by omega
     rw [e] at p1 q1
     rw [q1,if_neg (by omega),p1]
 · rw [if_neg (by omega),List.getElem?_eq_none (by omega),List.getElem?_eq_none (by omega)]
theorem pairsL_set1 (C:List (Nat×Nat)) (k p:Nat) (hk:k < C.length):(pairsL C).set (k*2+1) (.int .i64 (p:Int))=pairsL (C.set k (rowK C k,p)):=by
 apply List.ext_getElem?
 intro j
 have hl:=pairsL_len C
 have hl2:=pairsL_len (C.set k (rowK C k,p))
 rw [List.length_set] at hl2
 rw [List.getElem?_set]
 by_cases hj:j < C.length*2
 · have hi:j / 2 < C.length:=by omega
   obtain ⟨p0,p1⟩:=pairsL_get C (j / 2) hi
   obtain ⟨q0,q1⟩:=pairsL_get (C.set k (rowK C k,p)) (j / 2) (by rw [List.length_set];exact hi)
   have er:rowK (C.set k (rowK C k,p)) (j / 2)=rowK C (j / 2):=by
    unfold rowK
    rw [List.getD_eq_getElem?_getD,List.getElem?_set,List.getD_eq_getElem?_getD,List.getD_eq_getElem?_getD]
    by_cases c:k=j / 2
    · subst c
      simp [hi]
    · simp [c]
   have ep:posK (C.set k (rowK C k,p)) (j / 2)=if k=j / 2 then p else posK C (j / 2):=by
    unfold posK
    rw [List.getD_eq_getElem?_getD,List.getElem?_set,List.getD_eq_getElem?_getD]
    by_cases c:k=j / 2
    · simp [c,hi]
    · simp [c]
   rw [er] at q0
   rw [ep] at q1
   by_cases ho:j % 2=0
   · have e:j / 2*2=j:=by omega
     rw [e] at p0 q0
     rw [q0,if_neg (by omega),p0]
   · have e:j / 2*2+1=j:=by omega
     rw [e] at p1 q1
     rw [q1]
     by_cases c:k*2+1=j
     · rw [if_pos c,if_pos (by omega),if_pos (by omega)]
     · rw [if_neg c,p1,if_neg (by omega)]
 · rw [if_neg (by omega),List.getElem?_eq_none (by omega),List.getElem?_eq_none (by omega)]
theorem wrap64_id {z:Int} (h0:-9223372036854775808≤z) (h1:z≤9223372036854775807):wrap64 z=z:=by unfold wrap64;omega
theorem own_heap {w w':World} {B n sz:Nat} {e:TypeId} {v:Value} {xs:List Value} (h:w.ownsRow B e sz v n xs) (k:w'.heap=w.heap):w'.ownsRow B e sz v n xs:=own_same h fun b cs _ hb=>by unfold Bk at hb⊢;rw [k];exact hb
theorem pair_self (C:List (Nat×Nat)) (k:Nat) (hk:k < C.length):C.set k (rowK C k,posK C k)=C:=by
 have e:(rowK C k,posK C k)=C[k]:=by
  unfold rowK posK
  rw [List.getD_eq_getElem?_getD,List.getElem?_eq_getElem hk]
  rfl
 rw [e,List.set_getElem_self]
def mvR (a t r:Nat):Nat:=if r=a then t else inR (outR r a) t
theorem RowInC_any (B gl n c gx z k:Nat) (C:List (Nat×Nat)) (w:World) (h:w.ownsRow B 159 2 (.slice (some ⟨gl,0,none⟩) n c) n (pairsL C)) (hk:k < C.length) (hx:Bk w gx 3 #[.int .i64 (z:Int)]) (hC:rowK C k≤1000000000000):
 Calls Tryz.prog 138 #[.pointer (some ⟨gl,k*2,none⟩),.pointer (some ⟨gx,0,none⟩)] w fun e w'=>e=.returned (.tuple #[])∧w'.ownsRow B 159 2 (.slice (some ⟨gl,0,none⟩) n c) n (pairsL (C.set k (inR (rowK C k) z,posK C k)))∧Keep (fun b=>b=gl) w w':=by
 obtain ⟨p0,p1⟩:=pairsL_get C k hk
 have hn:C.length=n:=by have h1:=h.1;rw [pairsL_len] at h1;omega
 have d0:=(World.ownsRow.cellAt h (k*2) (by omega)).trans p0
 have d1:=(World.ownsRow.cellAt h (k*2+1) (by omega)).trans p1
 have x0:w.cell? ⟨gx,0,none⟩=some (.int .i64 (z:Int)):=(hx.cell 0).trans rfl
 obtain ⟨cur,hcur⟩:=own_bk h
 have fr:=hcur.frozen (k*2)
 have hgl:=hcur.lt
 have hgx:=hx.lt
 have hself:=pair_self C k hk
 have hset:=fun v=>pairsL_set0 C k v hk
 obtain ⟨r,hr⟩:∃r,rowK C k=r:=⟨_,rfl⟩
 obtain ⟨p,hp⟩:∃p,posK C k=p:=⟨_,rfl⟩
 rw [hr] at d0 hself hC
 rw [hp] at d1 hself hset
 rw [hr,hp]
 have H:=lhd h
 have Hself:=lhd hself
 have Hset:=lhd hset
 clear h hk hx p0 p1 hcur hself hset hn hr hp
 by_cases hz:z≤r
 · have z1:decide ((r:Int)≥(z:Int))=true:=decide_eq_true (by omega)
   have e1:wrap64 ((r:Int)+1)=((r+1:Nat):Int):=by unfold wrap64;omega
   have ho:=(World.ownsRow.stored H.out (k*2) (.int .i64 ((r+1:Nat):Int))).1
   rw [Hset.out] at ho
   have Ho:=lhd ho
   clear ho
   go_enter Tryz.func138,Tryz.ntmps138
   go_wp2_with fail
   go_quiet (fail)
   go_wp2_with fail
   go_end0
   refine ⟨rfl,?_,Keep.setCell (F:=fun b=>b=gl) ((Keep.refl _ _).drewN _) (p:=⟨gl,k*2,none⟩) (.inl rfl) _⟩
   have e2:inR (r) z=r+1:=by unfold inR;rw [if_pos (by omega)]
   rw [e2]
   exact Ho.out
 · have z1:decide ((r:Int)≥(z:Int))=false:=decide_eq_false (by omega)
   go_enter Tryz.func138,Tryz.ntmps138
   go_wp2_with fail
   go_quiet (fail)
   go_wp2_with fail
   go_end0
   refine ⟨rfl,?_,(Keep.refl _ _).drewN _⟩
   have e2:inR (r) z=r:=by unfold inR;rw [if_neg (by omega)]
   rw [e2,Hself.out]
   exact H.out
theorem PosInC_any (B gl n c gx z k:Nat) (C:List (Nat×Nat)) (w:World) (h:w.ownsRow B 159 2 (.slice (some ⟨gl,0,none⟩) n c) n (pairsL C)) (hk:k < C.length) (hx:Bk w gx 3 #[.int .i64 (z:Int)]) (hC:posK C k≤1000000000000):
 Calls Tryz.prog 139 #[.pointer (some ⟨gl,k*2,none⟩),.pointer (some ⟨gx,0,none⟩)] w fun e w'=>e=.returned (.tuple #[])∧w'.ownsRow B 159 2 (.slice (some ⟨gl,0,none⟩) n c) n (pairsL (C.set k (rowK C k,inR (posK C k) z)))∧Keep (fun b=>b=gl) w w':=by
 obtain ⟨p0,p1⟩:=pairsL_get C k hk
 have hn:C.length=n:=by have h1:=h.1;rw [pairsL_len] at h1;omega
 have d0:=(World.ownsRow.cellAt h (k*2) (by omega)).trans p0
 have d1:=(World.ownsRow.cellAt h (k*2+1) (by omega)).trans p1
 have x0:w.cell? ⟨gx,0,none⟩=some (.int .i64 (z:Int)):=(hx.cell 0).trans rfl
 obtain ⟨cur,hcur⟩:=own_bk h
 have fr:=hcur.frozen (k*2+1)
 have hgl:=hcur.lt
 have hgx:=hx.lt
 have hself:=pair_self C k hk
 have hset:=fun v=>pairsL_set1 C k v hk
 obtain ⟨r,hr⟩:∃r,rowK C k=r:=⟨_,rfl⟩
 obtain ⟨p,hp⟩:∃p,posK C k=p:=⟨_,rfl⟩
 rw [hr] at d0 hself hset
 rw [hp] at d1 hself hC
 rw [hr,hp]
 have H:=lhd h
 have Hself:=lhd hself
 have Hset:=lhd hset
 clear h hk hx p0 p1 hcur hself hset hn hr hp
 by_cases hz:z≤p
 · have z1:decide ((p:Int)≥(z:Int))=true:=decide_eq_true (by omega)
   have e1:wrap64 ((p:Int)+1)=((p+1:Nat):Int):=by unfold wrap64;omega
   have ho:=(World.ownsRow.stored H.out (k*2+1) (.int .i64 ((p+1:Nat):Int))).1
   rw [Hset.out] at ho
   have Ho:=lhd ho
   clear ho
   go_enter Tryz.func139,Tryz.ntmps139
   go_wp2_with fail
   go_quiet (fail)
   go_wp2_with fail
   go_end0
   refine ⟨rfl,?_,Keep.setCell (F:=fun b=>b=gl) ((Keep.refl _ _).drewN _) (p:=⟨gl,k*2+1,none⟩) (.inl rfl) _⟩
   have e2:inR (p) z=p+1:=by unfold inR;rw [if_pos (by omega)]
   rw [e2]
   exact Ho.out
 · have z1:decide ((p:Int)≥(z:Int))=false:=decide_eq_false (by omega)
   go_enter Tryz.func139,Tryz.ntmps139
   go_wp2_with fail
   go_quiet (fail)
   go_wp2_with fail
   go_end0
   refine ⟨rfl,?_,(Keep.refl _ _).drewN _⟩
   have e2:inR (p) z=p:=by unfold inR;rw [if_neg (by omega)]
   rw [e2,Hself.out]
   exact H.out
theorem EachRowIn_any (B gp ga gx0 z0:Nat) (vl vo vt vf:Value) (R P:Nat) (ks:List Nat) (C:List (Nat×Nat)) (tk:List Bool) (fr:List Nat) (w:World) (h:PermAt w B gp ga vl vo vt vf R P ks C tk fr) (hnd:ks.Nodup) (hl:ks.length≤1000000) (hx0:Bk w gx0 3 #[.int .i64 (z0:Int)]) (hgx0:∀b,vl.ownBlock=some b→b≠gx0) (hC:∀k,k∈ks→rowK C k≤1000000000000∧posK C k≤1000000000000):
 Calls Tryz.prog 137 #[.pointer (some ⟨gp,0,none⟩),.func (.func 138) #[] #[.pointer (some ⟨gx0,0,none⟩)]] w fun e w'=>e=.returned (.tuple #[])∧Keep (fun b=>vl.ownBlock=some b) w w'∧∃C',C'.length=C.length∧(∀k,k∈ks→(rowK C' k,posK C' k)=(inR (rowK C k) z0,posK C k))∧PermAt w' B gp ga vl vo vt vf R P ks C' tk fr:=by
 obtain ⟨A2,c2,hvo,_,_⟩:=own_shape h.orow
 have c2':w.cell? ⟨gp,2,none⟩=some (.slice A2 ks.length c2):=(h.blk.cell 2).trans (by rw [hvo];rfl)
 have hgp:=h.blk.lt
 obtain ⟨n,hn⟩:∃n,ks.length=n:=⟨_,rfl⟩
 rw [hn] at c2' hl
 have H:=lhd h
 have Hn:=lhd hn
 have Hvo:=lhd hvo
 have Hnd:=lhd hnd
 have HC:=lhd hC
 clear h hn hvo hnd hC
 go_enter Tryz.func137,Tryz.ntmps137
 go_wp2_with fail
 go_loopw [11] (fun i wr=>∃(j:Nat) (Cj:List (Nat×Nat)),j≤n∧i=.int .i64 (j:Int)∧Cj.length=C.length∧(∀k,k∈ks.take j→(rowK Cj k,posK Cj k)=(inR (rowK C k) z0,posK C k))∧(∀k,k∈ks.drop j→(rowK Cj k,posK Cj k)=(rowK C k,posK C k))∧PermAt wr B gp ga vl vo vt vf R P ks Cj tk fr∧Keep (fun b=>vl.ownBlock=some b) w wr) (fun i _=>n -(intOf i).toNat)
 case atStart=>exact ⟨0,C,Nat.zero_le _,rfl,rfl,fun k hk=>by simp at hk,fun k _=>rfl,H.out,Keep.refl _ _⟩
 case round=>
  obtain ⟨j,Cj,hj,rfl,hlen,hd1,hd2,hp,hk⟩:=hrel
  by_cases hlt:j < n
  · have hjl:j < ks.length:=by rw [Hn.out];exact hlt
    obtain ⟨k,hkj⟩:∃k,ks[j]?=some k:=⟨_,List.getElem?_eq_getElem hjl⟩
    have hkm:=List.mem_of_getElem? hkj
    have hkC:k < Cj.length:=hp.lt k hkm
    have ho2:=hp.orow
    rw [Hvo.out] at ho2
    obtain ⟨g2,k2,e2,_,hg2⟩:=World.ownsRow.form ho2 (by omega)
    injection e2 with e2a _ e2c
    subst e2a e2c
    have hlr:=hp.lrow
    obtain ⟨g1,k1,e1,_,hg1⟩:=World.ownsRow.form hlr (by omega)
    rw [e1] at hlr
    have d2:wr.cell? ⟨g2,j,none⟩=some (.int .i64 (k:Int)):=(World.ownsRow.cellAt ho2 j (by omega)).trans (by rw [List.getElem?_map,hkj];rfl)
    have d1:wr.cell? ⟨gp,1,none⟩=some (.slice (some ⟨g1,0,none⟩) Cj.length k1):=(hp.blk.cell 1).trans (by rw [e1];rfl)
    have hgpr:=hp.blk.lt
    have hsz:=hk.size
    have hkd:k∈ks.drop j:=by
        rw [List.drop_eq_getElem_cons hjl,List.getElem_eq_getElem?_get]
        simp [hkj]
    have hCk:(rowK Cj k,posK Cj k)=(rowK C k,posK C k):=hd2 k hkd
    injection hCk with hCr hCp
    have hxr:=fun (b:Nat) (e:Value.ownBlock vl=some b)=>(World.ownsRow.lt hp.lrow b e).2
    obtain ⟨N,hN⟩:∃N,Cj.length=N:=⟨_,rfl⟩
    rw [hN] at hlr d1 hkC
    have hxr0:=hk.bk hx0 (fun e=>hgx0 _ e rfl)
    have hkI:(k:Int) < (N:Int):=by omega
    have Hp:=lhd hp
    have Hk:=lhd hk
    have Hlr:=lhd hlr
    have Hkj:=lhd hkj
    have Hd1:=lhd hd1
    have Hd2:=lhd hd2
    have HN:=lhd hN
    have Hlen:=lhd hlen
    have He1:=lhd e1
    have HCr:=lhd hCr
    have HCp:=lhd hCp
    have Hkm:=lhd hkm
    clear hp hk hlr hkj hd1 hd2 hN hlen e1 hCr hCp hkm hkd ho2 hxr
    go_wp2_with fail
    refine (RowInC_any B g1 N k1 gx0 z0 k Cj wr Hlr.out (by rw [HN.out];exact hkC) hxr0 (by rw [HCr.out];exact (HC.out k Hkm.out).1)).mono ?_
    rintro e w1 ⟨rfl,hl1,hk1⟩
    have hC':PermAt w1 B gp ga vl vo vt vf R P ks (Cj.set k (inR (rowK Cj k) z0,posK Cj k)) tk fr:=by
        have hp:=Hp.out
        have hne:∀b t cs,t≠159→Bk wr b t cs→b≠g1:=fun b t cs ht hb e=>by
         subst e
         obtain ⟨cu,hcu⟩:=own_bk Hlr.out
         exact ht (bk_inj hb hcu).1
        refine ⟨hk1.bk hp.blk (hne _ _ _ (by decide) hp.blk),?_,own_same hp.orow fun b cs _ hb=>hk1.bk hb (hne _ _ _ (by decide) hb),hk1.bk hp.ar (hne _ _ _ (by decide) hp.ar),own_same hp.trow fun b cs _ hb=>hk1.bk hb (hne _ _ _ (by decide) hb),own_same hp.frow fun b cs _ hb=>hk1.bk hb (hne _ _ _ (by decide) hb),hp.apart,fun x hx=>by rw [List.length_set];exact hp.lt x hx,hp.lo⟩
        rw [List.length_set,HN.out,He1.out,HN.out]
        exact hl1
    have hk':Keep (fun b=>vl.ownBlock=some b) w w1:=Hk.out.trans (hk1.mono fun b _ e=>by rw [He1.out,show b=g1 from e];rfl)
    have hget:∀x,(rowK (Cj.set k (inR (rowK Cj k) z0,posK Cj k)) x,posK (Cj.set k (inR (rowK Cj k) z0,posK Cj k)) x)=if x=k then (inR (rowK Cj k) z0,posK Cj k) else (rowK Cj x,posK Cj x):=fun x=>by
        unfold rowK posK
        rw [List.getD_eq_getElem?_getD,List.getElem?_set]
        by_cases cx:k=x
        · subst cx
          rw [if_pos rfl,if_pos rfl,if_pos (by rw [HN.out];exact hkC)]
          rfl
        · rw [if_neg cx,if_neg (fun e=>cx e.symm),List.getD_eq_getElem?_getD]
    have hrel:∃(j':Nat) (Cj':List (Nat×Nat)),j'≤n∧Value.int .i64 ((j+1:Nat):Int)=.int .i64 (j':Int)∧Cj'.length=C.length∧(∀k,k∈ks.take j'→(rowK Cj' k,posK Cj' k)=(inR (rowK C k) z0,posK C k))∧(∀k,k∈ks.drop j'→(rowK Cj' k,posK Cj' k)=(rowK C k,posK C k))∧PermAt w1 B gp ga vl vo vt vf R P ks Cj' tk fr∧Keep (fun b=>vl.ownBlock=some b) w w1:=by
        refine ⟨j+1,_,by omega,rfl,by rw [List.length_set];exact Hlen.out,fun x hx=>?_,fun x hx=>?_,hC',hk'⟩
        · rw [hget]
          by_cases cx:x=k
          · subst cx
            rw [if_pos rfl,HCr.out,HCp.out]
          · rw [if_neg cx]
            refine Hd1.out x ?_
            rw [List.take_add_one,Hkj.out] at hx
            simp at hx
            rcases hx with hx | hx
            · exact hx
            · exact absurd hx cx
        · rw [hget]
          have hxk:x≠k:=fun e=>by
           subst e
           have hd:ks.drop j=x::ks.drop (j+1):=by
              have hjl:j < ks.length:=by rw [Hn.out];exact hlt
              rw [List.drop_eq_getElem_cons hjl]
              have h9:=Hkj.out
              rw [List.getElem?_eq_getElem hjl] at h9
              injection h9 with h9
              rw [h9]
           have hnd:=(List.drop_sublist j ks).nodup Hnd.out
           rw [hd,List.nodup_cons] at hnd
           exact hnd.1 hx
          rw [if_neg hxk]
          exact Hd2.out x (List.mem_of_mem_drop (by rw [←List.drop_drop] at hx;exact hx:x∈(ks.drop j).drop 1))
    have Hrel:=lhd hrel
    clear hC' hk' hget hrel hk1 hl1 d1 d2
    go_wp2_with fail
    go_roundw
    case rel=>exact Hrel.out
    case measure=>simp [intOf];omega
  · obtain rfl:j=n:=by omega
    have Hp:=lhd hp
    have Hk:=lhd hk
    have Hd1:=lhd hd1
    clear hp hk hd1 hd2
    go_wp2_with fail
    go_end0
    refine ⟨rfl,Hk.out,Cj,hlen,fun k hk=>Hd1.out k ?_,Hp.out⟩
    rw [List.take_of_length_le (by rw [Hn.out];exact Nat.le_refl _)]
    exact hk
theorem EachPosIn_any (B gp ga gx0 z0:Nat) (vl vo vt vf:Value) (R P:Nat) (ks:List Nat) (C:List (Nat×Nat)) (tk:List Bool) (fr:List Nat) (w:World) (h:PermAt w B gp ga vl vo vt vf R P ks C tk fr) (hnd:ks.Nodup) (hl:ks.length≤1000000) (hx0:Bk w gx0 3 #[.int .i64 (z0:Int)]) (hgx0:∀b,vl.ownBlock=some b→b≠gx0) (hC:∀k,k∈ks→rowK C k≤1000000000000∧posK C k≤1000000000000):
 Calls Tryz.prog 137 #[.pointer (some ⟨gp,0,none⟩),.func (.func 139) #[] #[.pointer (some ⟨gx0,0,none⟩)]] w fun e w'=>e=.returned (.tuple #[])∧Keep (fun b=>vl.ownBlock=some b) w w'∧∃C',C'.length=C.length∧(∀k,k∈ks→(rowK C' k,posK C' k)=(rowK C k,inR (posK C k) z0))∧PermAt w' B gp ga vl vo vt vf R P ks C' tk fr:=by
 obtain ⟨A2,c2,hvo,_,_⟩:=own_shape h.orow
 have c2':w.cell? ⟨gp,2,none⟩=some (.slice A2 ks.length c2):=(h.blk.cell 2).trans (by rw [hvo];rfl)
 have hgp:=h.blk.lt
 obtain ⟨n,hn⟩:∃n,ks.length=n:=⟨_,rfl⟩
 rw [hn] at c2' hl
 have H:=lhd h
 have Hn:=lhd hn
 have Hvo:=lhd hvo
 have Hnd:=lhd hnd
 have HC:=lhd hC
 clear h hn hvo hnd hC
 go_enter Tryz.func137,Tryz.ntmps137
 go_wp2_with fail
 go_loopw [11] (fun i wr=>∃(j:Nat) (Cj:List (Nat×Nat)),j≤n∧i=.int .i64 (j:Int)∧Cj.length=C.length∧(∀k,k∈ks.take j→(rowK Cj k,posK Cj k)=(rowK C k,inR (posK C k) z0))∧(∀k,k∈ks.drop j→(rowK Cj k,posK Cj k)=(rowK C k,posK C k))∧PermAt wr B gp ga vl vo vt vf R P ks Cj tk fr∧Keep (fun b=>vl.ownBlock=some b) w wr) (fun i _=>n -(intOf i).toNat)
 case atStart=>exact ⟨0,C,Nat.zero_le _,rfl,rfl,fun k hk=>by simp at hk,fun k _=>rfl,H.out,Keep.refl _ _⟩
 case round=>
  obtain ⟨j,Cj,hj,rfl,hlen,hd1,hd2,hp,hk⟩:=hrel
  by_cases hlt:j < n
  · have hjl:j < ks.length:=by rw [Hn.out];exact hlt
    obtain ⟨k,hkj⟩:∃k,ks[j]?=some k:=⟨_,List.getElem?_eq_getElem hjl⟩
    have hkm:=List.mem_of_getElem? hkj
    have hkC:k < Cj.length:=hp.lt k hkm
    have ho2:=hp.orow
    rw [Hvo.out] at ho2
    obtain ⟨g2,k2,e2,_,hg2⟩:=World.ownsRow.form ho2 (by omega)
    injection e2 with e2a _ e2c
    subst e2a e2c
    have hlr:=hp.lrow
    obtain ⟨g1,k1,e1,_,hg1⟩:=World.ownsRow.form hlr (by omega)
    rw [e1] at hlr
    have d2:wr.cell? ⟨g2,j,none⟩=some (.int .i64 (k:Int)):=(World.ownsRow.cellAt ho2 j (by omega)).trans (by rw [List.getElem?_map,hkj];rfl)
    have d1:wr.cell? ⟨gp,1,none⟩=some (.slice (some ⟨g1,0,none⟩) Cj.length k1):=(hp.blk.cell 1).trans (by rw [e1];rfl)
    have hgpr:=hp.blk.lt
    have hsz:=hk.size
    have hkd:k∈ks.drop j:=by
        rw [List.drop_eq_getElem_cons hjl,List.getElem_eq_getElem?_get]
        simp [hkj]
    have hCk:(rowK Cj k,posK Cj k)=(rowK C k,posK C k):=hd2 k hkd
    injection hCk with hCr hCp
    have hxr:=fun (b:Nat) (e:Value.ownBlock vl=some b)=>(World.ownsRow.lt hp.lrow b e).2
    obtain ⟨N,hN⟩:∃N,Cj.length=N:=⟨_,rfl⟩
    rw [hN] at hlr d1 hkC
    have hxr0:=hk.bk hx0 (fun e=>hgx0 _ e rfl)
    have hkI:(k:Int) < (N:Int):=by omega
    have Hp:=lhd hp
    have Hk:=lhd hk
    have Hlr:=lhd hlr
    have Hkj:=lhd hkj
    have Hd1:=lhd hd1
    have Hd2:=lhd hd2
    have HN:=lhd hN
    have Hlen:=lhd hlen
    have He1:=lhd e1
    have HCr:=lhd hCr
    have HCp:=lhd hCp
    have Hkm:=lhd hkm
    clear hp hk hlr hkj hd1 hd2 hN hlen e1 hCr hCp hkm hkd ho2 hxr
    go_wp2_with fail
    refine (PosInC_any B g1 N k1 gx0 z0 k Cj wr Hlr.out (by rw [HN.out];exact hkC) hxr0 (by rw [HCp.out];exact (HC.out k Hkm.out).2)).mono ?_
    rintro e w1 ⟨rfl,hl1,hk1⟩
    have hC':PermAt w1 B gp ga vl vo vt vf R P ks (Cj.set k (rowK Cj k,inR (posK Cj k) z0)) tk fr:=by
        have hp:=Hp.out
        have hne:∀b t cs,t≠159→Bk wr b t cs→b≠g1:=fun b t cs ht hb e=>by
         subst e
         obtain ⟨cu,hcu⟩:=own_bk Hlr.out
         exact ht (bk_inj hb hcu).1
        refine ⟨hk1.bk hp.blk (hne _ _ _ (by decide) hp.blk),?_,own_same hp.orow fun b cs _ hb=>hk1.bk hb (hne _ _ _ (by decide) hb),hk1.bk hp.ar (hne _ _ _ (by decide) hp.ar),own_same hp.trow fun b cs _ hb=>hk1.bk hb (hne _ _ _ (by decide) hb),own_same hp.frow fun b cs _ hb=>hk1.bk hb (hne _ _ _ (by decide) hb),hp.apart,fun x hx=>by rw [List.length_set];exact hp.lt x hx,hp.lo⟩
        rw [List.length_set,HN.out,He1.out,HN.out]
        exact hl1
    have hk':Keep (fun b=>vl.ownBlock=some b) w w1:=Hk.out.trans (hk1.mono fun b _ e=>by rw [He1.out,show b=g1 from e];rfl)
    have hget:∀x,(rowK (Cj.set k (rowK Cj k,inR (posK Cj k) z0)) x,posK (Cj.set k (rowK Cj k,inR (posK Cj k) z0)) x)=if x=k then (rowK Cj k,inR (posK Cj k) z0) else (rowK Cj x,posK Cj x):=fun x=>by
        unfold rowK posK
        rw [List.getD_eq_getElem?_getD,List.getElem?_set]
        by_cases cx:k=x
        · subst cx
          rw [if_pos rfl,if_pos rfl,if_pos (by rw [HN.out];exact hkC)]
          rfl
        · rw [if_neg cx,if_neg (fun e=>cx e.symm),List.getD_eq_getElem?_getD]
    have hrel:∃(j':Nat) (Cj':List (Nat×Nat)),j'≤n∧Value.int .i64 ((j+1:Nat):Int)=.int .i64 (j':Int)∧Cj'.length=C.length∧(∀k,k∈ks.take j'→(rowK Cj' k,posK Cj' k)=(rowK C k,inR (posK C k) z0))∧(∀k,k∈ks.drop j'→(rowK Cj' k,posK Cj' k)=(rowK C k,posK C k))∧PermAt w1 B gp ga vl vo vt vf R P ks Cj' tk fr∧Keep (fun b=>vl.ownBlock=some b) w w1:=by
        refine ⟨j+1,_,by omega,rfl,by rw [List.length_set];exact Hlen.out,fun x hx=>?_,fun x hx=>?_,hC',hk'⟩
        · rw [hget]
          by_cases cx:x=k
          · subst cx
            rw [if_pos rfl,HCr.out,HCp.out]
          · rw [if_neg cx]
            refine Hd1.out x ?_
            rw [List.take_add_one,Hkj.out] at hx
            simp at hx
            rcases hx with hx | hx
            · exact hx
            · exact absurd hx cx
        · rw [hget]
          have hxk:x≠k:=fun e=>by
           subst e
           have hd:ks.drop j=x::ks.drop (j+1):=by
              have hjl:j < ks.length:=by rw [Hn.out];exact hlt
              rw [List.drop_eq_getElem_cons hjl]
              have h9:=Hkj.out
              rw [List.getElem?_eq_getElem hjl] at h9
              injection h9 with h9
              rw [h9]
           have hnd:=(List.drop_sublist j ks).nodup Hnd.out
           rw [hd,List.nodup_cons] at hnd
           exact hnd.1 hx
          rw [if_neg hxk]
          exact Hd2.out x (List.mem_of_mem_drop (by rw [←List.drop_drop] at hx;exact hx:x∈(ks.drop j).drop 1))
    have Hrel:=lhd hrel
    clear hC' hk' hget hrel hk1 hl1 d1 d2
    go_wp2_with fail
    go_roundw
    case rel=>exact Hrel.out
    case measure=>simp [intOf];omega
  · obtain rfl:j=n:=by omega
    have Hp:=lhd hp
    have Hk:=lhd hk
    have Hd1:=lhd hd1
    clear hp hk hd1 hd2
    go_wp2_with fail
    go_end0
    refine ⟨rfl,Hk.out,Cj,hlen,fun k hk=>Hd1.out k ?_,Hp.out⟩
    rw [List.take_of_length_le (by rw [Hn.out];exact Nat.le_refl _)]
    exact hk
end Go.Proofs.YtipaccakmndkgaaGreatDoor
namespace Go.Proofs.YtipaccakmndkgaaGreatDoor
theorem countP_but {l:List Nat} (hn:l.Nodup) {x:Nat} (hx:x∈l) {f g:Nat→Bool} (h:∀y∈l,y≠x→f y=g y):l.countP f+(if g x then 1 else 0)=l.countP g+(if f x then 1 else 0):=by
 have hp:=List.perm_cons_erase hx
 have hn2:=hp.nodup_iff.1 hn
 have e:(l.erase x).countP f=(l.erase x).countP g:=List.countP_congr fun y hy=>by
  rw [h y (List.mem_of_mem_erase hy) (fun e=>(List.nodup_cons.1 hn2).1 (e ▸ hy))]
 rw [hp.countP_eq,hp.countP_eq,List.countP_cons,List.countP_cons,e]
 omega
theorem ro_cnt {R:List Nat} (hn:R.Nodup) {y:Nat} (hy:y∈R):R.countP (fun p=>decide (ro R p < ro R y))=ro R y:=by
 have h:=take_cntP hn (ro R y) (fun _=>true)
 have h2:(R.take (ro R y)).countP (fun _=>true)=(R.take (ro R y)).length:=List.countP_eq_length.2 fun _ _=>rfl
 rw [h2,List.length_take] at h
 have hl:ro R y < R.length:=List.idxOf_lt_length_iff.2 hy
 rw [Nat.min_eq_left (by omega)] at h
 simp only [Bool.true_and] at h
 exact h.symm
def besN (n cur a:Nat):Nat:=let m:=if cur < a then n - 1 else n;if a≤m then m+1 else m
section
variable {S R : List Nat} {N i : Nat}
theorem next_row (h:Near S R N (i+2)) (hi:i+1 < N):(if S.getD (i+1) 0=S.getD i 0 then besN (narL (lastL S R) (S.getD i 0) (ro R (i+1))) (ro R (i+2)) (ro R (i+1)) else narL (lastL S R) (S.getD i 0) (ro R (i+1)))=ro R i∧
 (S.getD (i+1) 0=S.getD i 0→ro R (i+2) < ro R (i+1)→0 < narL (lastL S R) (S.getD i 0) (ro R (i+1))):=by
 have hn:=h.nodup
 have hm:∀p,p≤N→p∈R:=fun p hp=>h.mem.2 hp
 have hne:∀p q,p≤N→q≤N→p≠q→ro R p≠ro R q:=fun p q hp hq hpq e=>hpq (ro_inj (hm p hp) (hm q hq) e)
 have hd:=h.endk.pos i (by omega)
 rw [narL_cnt h.endk h.perm hd]
 have c1:(List.range (N+1)).countP (fun p=>decide (ro R p < ro R i))=ro R i:=by
  rw [←h.perm.countP_eq]
  exact ro_cnt hn (hm i (by omega))
 have hcons:∀y∈List.range (N+1),y≠i+1→decide (ro R y < ro R i)=decide (S.getD y 0 < S.getD i 0∨(S.getD y 0=S.getD i 0∧ro R (y+1) < ro R (i+1))):=fun y hy hyi=>by
  rw [List.mem_range] at hy
  rw [decide_eq_decide]
  by_cases hy2:y=i
  · subst hy2
    omega
  · exact h.cons y i (by omega) (by omega) hy2 (by omega) (by omega)
 have hb:=countP_but List.nodup_range (x:=i+1) (by simp;omega) hcons
 rw [c1] at hb
 unfold kcnt
 generalize hn0:List.countP (fun p=>decide (S.getD p 0 < S.getD i 0∨(S.getD p 0=S.getD i 0∧ro R (p+1) < ro R (i+1)))) (List.range (N+1))=n0 at hb⊢
 have hia:=hne i (i+1) (by omega) (by omega) (by omega)
 have hca:=hne (i+2) (i+1) (by omega) (by omega) (by omega)
 have f1:=h.first (i+1) i (by omega) (by omega)
 have f2:=h.first i (i+1) (by omega) (by omega)
 simp only [decide_eq_true_eq,show i+1+1=i+2 by omega] at hb
 by_cases he:S.getD (i+1) 0=S.getD i 0
 · have e1:(S.getD (i+1) 0 < S.getD i 0∨(S.getD (i+1) 0=S.getD i 0∧ro R (i+2) < ro R (i+1)))↔ro R (i+2) < ro R (i+1):=by omega
   simp only [e1] at hb
   rw [if_pos he]
   unfold besN
   refine ⟨?_,fun _ hlt=>?_⟩
   · by_cases q1:ro R (i+2) < ro R (i+1)
     · rw [if_pos q1] at hb
       simp only [if_pos q1]
       split at hb <;> split <;> omega
     · rw [if_neg q1] at hb
       simp only [if_neg q1]
       split at hb <;> split <;> omega
   · rw [if_pos hlt] at hb
     split at hb <;> omega
 · have e1:(S.getD (i+1) 0 < S.getD i 0∨(S.getD (i+1) 0=S.getD i 0∧ro R (i+2) < ro R (i+1)))↔ro R (i+1) < ro R i:=by omega
   simp only [e1] at hb
   rw [if_neg he]
   exact ⟨by omega,fun e=>absurd e he⟩
def sh (k p:Nat):Nat:=if p < k then p else p+1
theorem sh_inj {k p q:Nat} (h:sh k p=sh k q):p=q:=by unfold sh at h;split at h <;> split at h <;> omega
theorem sh_ne (k p:Nat):sh k p≠k:=by unfold sh;split <;> omega
theorem sh_onto {k q:Nat} (h:q≠k):∃p,sh k p=q:=by
 by_cases c:q < k
 · exact ⟨q,by unfold sh;rw [if_pos c]⟩
 · exact ⟨q - 1,by unfold sh;rw [if_neg (by omega)];omega⟩
theorem insN_gD (l:List Nat) {k:Nat} (x:Nat) (h:k≤l.length) (j:Nat):(insN l k x).getD j 0=if j < k then l.getD j 0 else if j=k then x else l.getD (j - 1) 0:=by
 rw [List.getD_eq_getElem?_getD,insN_get l x h]
 split
 · rw [List.getD_eq_getElem?_getD]
 · split
   · rfl
   · rw [List.getD_eq_getElem?_getD]
theorem ins_sh (l:List Nat) {k:Nat} (x p:Nat) (h:k≤l.length):(insN l k x).getD (sh k p) 0=l.getD p 0:=by
 rw [insN_gD l x h]
 by_cases c:p < k
 · rw [show sh k p=p by unfold sh;rw [if_pos c],if_pos c]
 · rw [show sh k p=p+1 by unfold sh;rw [if_neg c],if_neg (by omega),if_neg (by omega),Nat.add_sub_cancel]
theorem ins_at (l:List Nat) {k:Nat} (x:Nat) (h:k≤l.length):(insN l k x).getD k 0=x:=by
 rw [insN_gD l x h,if_neg (by omega),if_pos rfl]
theorem ro_ins {R:List Nat} (hn:R.Nodup) {at_ row:Nat} (hr:row≤R.length):ro (insN (R.map (sh at_)) row at_) at_=row∧(∀p∈R,ro (insN (R.map (sh at_)) row at_) (sh at_ p)=inR (ro R p) row)∧(insN (R.map (sh at_)) row at_).Nodup:=by
 have hl:row≤(R.map (sh at_)).length:=by simpa using hr
 have hnd:(insN (R.map (sh at_)) row at_).Nodup:=by
  rw [(insN_perm _ _ _).nodup_iff,List.nodup_cons]
  refine ⟨fun hm=>?_,List.pairwise_map.2 (hn.imp fun h1 h2=>h1 (sh_inj h2))⟩
  obtain ⟨p,_,e⟩:=List.mem_map.1 hm
  exact sh_ne _ _ e
 refine ⟨ro_of hnd ?_,fun p hp=>ro_of hnd ?_,hnd⟩
 · rw [insN_get _ _ hl,if_neg (by omega),if_pos rfl]
 · rw [insN_get _ _ hl]
   have hg:=ro_get hp
   unfold inR
   by_cases c:row≤ro R p
   · rw [if_pos c,if_neg (by omega),if_neg (by omega),Nat.add_sub_cancel,List.getElem?_map,hg]
     rfl
   · rw [if_neg c,if_pos (by omega),List.getElem?_map,hg]
     rfl
theorem ins_end (h:EndOk S N) {at_ s:Nat} (ha:at_≤N) (hs:0 < s):EndOk (insN S at_ s) (N+1):=by
 obtain ⟨e1,e2,e3⟩:=h
 refine ⟨by rw [insN_len _ _ (by omega),e1],?_,fun p hp=>?_⟩
 · rw [insN_gD _ _ (by omega),if_neg (by omega),if_neg (by omega),Nat.add_sub_cancel,e2]
 · rw [insN_gD _ _ (by omega)]
   split
   · exact e3 p (by omega)
   · split
     · exact hs
     · exact e3 _ (by omega)
theorem perm_ins {R:List Nat} (hp:R.Perm (List.range (N+1))) {at_:Nat} (row:Nat) (ha:at_≤N):(insN (R.map (sh at_)) row at_).Perm (List.range (N+1+1)):=by
 refine (List.perm_ext_iff_of_nodup ?_ List.nodup_range).2 fun q=>?_
 · rw [(insN_perm _ _ _).nodup_iff,List.nodup_cons]
   refine ⟨fun hm=>?_,List.pairwise_map.2 ((hp.nodup_iff.2 List.nodup_range).imp fun h1 h2=>h1 (sh_inj h2))⟩
   obtain ⟨p,_,e⟩:=List.mem_map.1 hm
   exact sh_ne _ _ e
 · rw [(insN_perm _ _ _).mem_iff,List.mem_cons,List.mem_map,List.mem_range]
   constructor
   · rintro (rfl |⟨p,hpm,rfl⟩)
     · omega
     · have:=List.mem_range.1 (hp.mem_iff.1 hpm)
       unfold sh
       split <;> omega
   · intro hq
     by_cases c:q=at_
     · exact .inl c
     · obtain ⟨p,rfl⟩:=sh_onto c
       refine .inr ⟨p,hp.mem_iff.2 (List.mem_range.2 ?_),rfl⟩
       unfold sh at hq c
       split at hq <;> omega
theorem near_ins (h0:IsSuf S R) (he:EndOk S N) {at_ s:Nat} (ha:at_≤N) (hs:0 < s):narL (lastL S R) s (ro R at_)≤R.length∧Near (insN S at_ s) (insN (R.map (sh at_)) (narL (lastL S R) s (ro R at_)) at_) (N+1) at_:=by
 have h:=h0.near he
 have hn:=h.nodup
 have hm:∀p,p≤N→p∈R:=fun p hp=>h.mem.2 hp
 obtain ⟨row,hrow⟩:∃row,narL (lastL S R) s (ro R at_)=row:=⟨_,rfl⟩
 have hcnt:R.countP (fun p=>decide (S.getD p 0 < s∨(S.getD p 0=s∧ro R (p+1) < ro R at_)))=row:=by
  rw [←hrow,narL_cnt he h.perm hs,h.perm.countP_eq]
  rfl
 rw [hrow]
 have hle:row≤R.length:=by rw [←hcnt];exact List.countP_le_length
 have hpre:∀p,p≤N→(decide (S.getD p 0 < s∨(S.getD p 0=s∧ro R (p+1) < ro R at_))=true↔ro R p < row):=fun p hp=>by
  rw [←hcnt]
  refine pre_lt (K:=fun p=>decide (S.getD p 0 < s∨(S.getD p 0=s∧ro R (p+1) < ro R at_))) ?_ _ _ (ro_get (hm p hp))
  rw [List.pairwise_iff_getElem]
  intro a b ha' hb hab hk
  have ra:ro R R[a]=a:=ro_of hn (List.getElem?_eq_getElem ha')
  have rb:ro R R[b]=b:=ro_of hn (List.getElem?_eq_getElem hb)
  have hpa:R[a]≤N:=h.mem.1 (List.getElem_mem ha')
  have hpb:R[b]≤N:=h.mem.1 (List.getElem_mem hb)
  have hc:=(h.cons R[a] R[b] hpa hpb (fun e=>by rw [e,rb] at ra;omega) (by omega) (by omega)).1 (by omega)
  unfold keyR at hc
  rw [decide_eq_true_eq] at hk⊢
  omega
 obtain ⟨r1,r2,r3⟩:=ro_ins hn (at_:=at_) hle
 have hS:=he.len
 refine ⟨hle,ins_end he ha hs,perm_ins h.perm row ha,fun p q hp hq hlt=>?_,fun p q hp hq hpq hpi hqi=>?_⟩
 · by_cases cp:p=at_
   · subst cp
     by_cases cq:q=p
     · subst cq;omega
     · obtain ⟨q0,rfl⟩:=sh_onto cq
       have hq0:q0≤N:=by unfold sh at hq;split at hq <;> omega
       rw [r1,r2 q0 (hm q0 hq0)] at hlt
       rw [ins_at _ _ (by omega),ins_sh _ _ _ (by omega)]
       have hk:=hpre q0 hq0
       rw [decide_eq_true_eq] at hk
       unfold inR at hlt
       split at hlt <;> omega
   · obtain ⟨p0,rfl⟩:=sh_onto cp
     have hp0:p0≤N:=by unfold sh at hp;split at hp <;> omega
     by_cases cq:q=at_
     · subst cq
       rw [r1,r2 p0 (hm p0 hp0)] at hlt
       rw [ins_at _ _ (by omega),ins_sh _ _ _ (by omega)]
       have hk:=hpre p0 hp0
       rw [decide_eq_true_eq] at hk
       unfold inR at hlt
       split at hlt <;> omega
     · obtain ⟨q0,rfl⟩:=sh_onto cq
       have hq0:q0≤N:=by unfold sh at hq;split at hq <;> omega
       rw [r2 p0 (hm p0 hp0),r2 q0 (hm q0 hq0)] at hlt
       rw [ins_sh _ _ _ (by omega),ins_sh _ _ _ (by omega)]
       refine h.first p0 q0 hp0 hq0 ?_
       unfold inR at hlt
       split at hlt <;> split at hlt <;> omega
 · have hsu:∀p0,p0≤N→sh at_ p0+1≠at_→p0 < N→sh at_ p0+1=sh at_ (p0+1):=fun p0 hp0 hc _=>by
    unfold sh at hc⊢
    by_cases c1:p0 < at_ <;> by_cases c2:p0+1 < at_ <;> simp only [c1,c2,if_true,if_false] at hc⊢<;> omega
   have hat1:at_+1=sh at_ at_:=by unfold sh;rw [if_neg (by omega)]
   have ordS:∀p0 q0,p0≤N→q0≤N→(ro (insN (R.map (sh at_)) row at_) (sh at_ p0) < ro (insN (R.map (sh at_)) row at_) (sh at_ q0)↔ro R p0 < ro R q0):=fun p0 q0 hp0 hq0=>by
    rw [r2 p0 (hm p0 hp0),r2 q0 (hm q0 hq0)]
    unfold inR
    split <;> split <;> omega
   have eN:∀x,x≤N→S.getD x 0≠0→x < N:=fun x hx hne=>Nat.lt_of_le_of_ne hx fun e=>by subst e;exact hne he.last
   unfold keyR
   by_cases cp:p=at_
   · subst cp
     obtain ⟨q0,rfl⟩:=sh_onto (fun e=>hpq e.symm)
     have hq0:q0≤N:=by unfold sh at hq;split at hq <;> omega
     rw [r1,r2 q0 (hm q0 hq0),ins_at _ _ (by omega),ins_sh _ _ _ (by omega)]
     have hk:=hpre q0 hq0
     rw [decide_eq_true_eq] at hk
     have hlt:row < inR (ro R q0) row↔¬ro R q0 < row:=by unfold inR;split <;> omega
     rw [hlt,←hk]
     by_cases ce:S.getD q0 0=s
     · have hqN:=eN q0 hq0 (by omega)
       rw [hsu q0 hq0 hqi hqN,hat1,ordS p (q0+1) ha (by omega)]
       have:=fun e=>ro_inj (hm (q0+1) (by omega)) (hm p ha) e
       have hne:ro R (q0+1)≠ro R p:=fun e=>by
        have:=this e
        unfold sh at hqi
        split at hqi <;> omega
       omega
     · omega
   · obtain ⟨p0,rfl⟩:=sh_onto cp
     have hp0:p0≤N:=by unfold sh at hp;split at hp <;> omega
     by_cases cq:q=at_
     · subst cq
       rw [r1,r2 p0 (hm p0 hp0),ins_at _ _ (by omega),ins_sh _ _ _ (by omega)]
       have hk:=hpre p0 hp0
       rw [decide_eq_true_eq] at hk
       have hlt:inR (ro R p0) row < row↔ro R p0 < row:=by unfold inR;split <;> omega
       rw [hlt,←hk]
       by_cases ce:S.getD p0 0=s
       · have hpN:=eN p0 hp0 (by omega)
         rw [hsu p0 hp0 hpi hpN,hat1,ordS (p0+1) q (by omega) ha]
       · omega
     · obtain ⟨q0,rfl⟩:=sh_onto cq
       have hq0:q0≤N:=by unfold sh at hq;split at hq <;> omega
       have hpq0:p0≠q0:=fun e=>hpq (by rw [e])
       rw [ordS p0 q0 hp0 hq0,ins_sh _ _ _ (by omega),ins_sh _ _ _ (by omega),h.cons p0 q0 hp0 hq0 hpq0 (by omega) (by omega)]
       unfold keyR
       by_cases ce:S.getD p0 0=S.getD q0 0
       · by_cases cz:S.getD p0 0=0
         · have x1:p0=N:=Nat.le_antisymm hp0 (Nat.not_lt.1 fun hl=>by have:=he.pos p0 hl;omega)
           have x2:q0=N:=Nat.le_antisymm hq0 (Nat.not_lt.1 fun hl=>by have:=he.pos q0 hl;omega)
           omega
         · have hpN:=eN p0 hp0 cz
           have hqN:=eN q0 hq0 (by omega)
           rw [hsu p0 hp0 hpi hpN,hsu q0 hq0 hqi hqN,ordS (p0+1) (q0+1) (by omega) (by omega)]
       · omega
theorem lastL_ins (hn:R.Nodup) (hp:R.Perm (List.range (N+1))) (he:EndOk S N) {at_ s row:Nat} (ha:at_≤N) (hr:row≤R.length):lastL (insN S at_ s) (insN (R.map (sh at_)) row at_)=insN ((lastL S R).set (ro R at_) s) row (prevL S at_):=by
 have hS:=he.len
 have hS':(insN S at_ s).length=N+1+1:=by rw [insN_len _ _ (by omega),hS]
 have hmem:∀p,p∈R→p≤N:=fun p hpm=>by have:=List.mem_range.1 (hp.mem_iff.1 hpm);omega
 have hat:at_∈R:=hp.mem_iff.2 (List.mem_range.2 (by omega))
 unfold lastL
 rw [insN_map]
 congr 1
 · apply List.ext_getElem?
   intro j
   rw [List.getElem?_map,List.getElem?_map,List.getElem?_set,List.getElem?_map]
   cases hg:R[j]? with
   | none=>
     simp
     intro e
     subst e
     rw [ro_get hat] at hg
     cases hg
   | some p=>
     have hpN:=hmem p (List.mem_of_getElem? hg)
     have hj:ro R p=j:=ro_of hn hg
     show some (prevL (insN S at_ s) (sh at_ p))=_
     by_cases c:p=at_
     · subst c
       rw [if_pos hj,if_pos (by simpa using (List.getElem?_eq_some_iff.1 (hj ▸ hg)).1)]
       congr 1
       rw [show sh p p=p+1 by unfold sh;rw [if_neg (by omega)],prevL_succ (by omega),ins_at _ _ (by omega)]
     · rw [if_neg (fun e=>c (by have h1:=ro_get hat;rw [e,hg] at h1;injection h1))]
       show some _=some (prevL S p)
       congr 1
       rcases p with _ | p
       · rw [show sh at_ 0=0 by unfold sh;rw [if_pos (by omega)],prevL_zero (by omega),prevL_zero (by omega),hS',hS,Nat.add_sub_cancel,Nat.add_sub_cancel,insN_gD _ _ (by omega),if_neg (by omega),if_neg (by omega),Nat.add_sub_cancel]
       · have e1:sh at_ (p+1)=sh at_ p+1:=by unfold sh;split <;> split <;> omega
         have hlt:sh at_ p+1 < N+1+1:=by unfold sh;split <;> omega
         rw [e1,prevL_succ (by omega),prevL_succ (by omega),ins_sh _ _ _ (by omega)]
 · rcases at_ with _ | a
   · rw [prevL_zero (by omega),prevL_zero (by omega),hS',hS,Nat.add_sub_cancel,Nat.add_sub_cancel,insN_gD _ _ (by omega),if_neg (by omega),if_neg (by omega),Nat.add_sub_cancel]
   · rw [prevL_succ (by omega),prevL_succ (by omega),insN_gD _ _ (by omega),if_pos (by omega)]
theorem lastL_move {a t x:Nat} (ha:R[a]?=some x):lastL S (insN (delN R a) t x)=insN (delN (lastL S R) a) t (prevL S x):=by
 unfold lastL
 rw [insN_map,delN_map]
end
end Go.Proofs.YtipaccakmndkgaaGreatDoor
