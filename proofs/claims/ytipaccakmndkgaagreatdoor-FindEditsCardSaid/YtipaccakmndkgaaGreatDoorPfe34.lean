/- A text by any right pairs (LiveG): the walk of live's Row. Conditions: a text of at most 127 bytes. Plain laws for an edit on the transform: an order of a text's places that is right but for one of them, and the move that rights it (plain Lean). No conditions. -/
import Derived.Test.YtipaccakmndkgaaGreatDoorPfe32
import Derived.Test.YtipaccakmndkgaaGreatDoorPfe25
import Derived.Test.YtipaccakmndkgaaGreatDoorPfe2
namespace Go.Proofs.YtipaccakmndkgaaGreatDoor
open Go.RowKit
set_option linter.unusedVariables false
set_option linter.unusedSimpArgs false
structure LiveG (w:World) (Bw gl gk gp rate n:Nat) (L:List Nat) (pr:List (Nat×Nat)):Prop where
 blk:∃mv:Int,Bk w gl 87 #[.pointer (some ⟨gk,0,none⟩),.pointer (some ⟨gp,0,none⟩),.int .i64 (rate:Int),.int .i64 mv]
 walk:WalkAt w Bw gk L
 perm:PermR w gp n n pr
theorem LiveG.vis {w w':World} {Bw gl gk gp rate n:Nat} {L:List Nat} {pr:List (Nat×Nat)} (h:LiveG w Bw gl gk gp rate n L pr) (k:Vis w w'):LiveG w' Bw gl gk gp rate n L pr:=by
 obtain ⟨mv,h1⟩:=h.blk
 exact ⟨⟨mv,k.bk h1 (by decide) (by decide)⟩,h.walk.vis k,h.perm.vis k⟩
theorem LiveG.lvw {w:World} {Bw gl gk gp rate n:Nat} {L:List Nat} {pr:List (Nat×Nat)} (h:LiveG w Bw gl gk gp rate n L pr):LvW w Bw gl L:=by
 obtain ⟨mv,h1⟩:=h.blk
 exact ⟨gk,_,_,_,h1,h.walk⟩
theorem LiveG.mono {w:World} {Bw B' gl gk gp rate n:Nat} {L:List Nat} {pr:List (Nat×Nat)} (h:LiveG w Bw gl gk gp rate n L pr) (hB:B'≤Bw):LiveG w B' gl gk gp rate n L pr:=⟨h.blk,h.walk.mono hB,h.perm⟩
theorem LiveG.lt {w:World} {Bw gl gk gp rate n:Nat} {L:List Nat} {pr:List (Nat×Nat)} (h:LiveG w Bw gl gk gp rate n L pr):gl < w.heap.size:=h.lvw.lt
theorem range_pairs (C:List (Nat×Nat)):C=(List.range C.length).map fun k=>(rowK C k,posK C k):=by
 apply List.ext_getElem?
 intro i
 rw [List.getElem?_map]
 by_cases h:i < C.length
 · rw [List.getElem?_range h,List.getElem?_eq_getElem h]
   unfold rowK posK
   rw [Option.map_some,List.getD_eq_getElem?_getD,List.getElem?_eq_getElem h]
   rfl
 · rw [List.getElem?_eq_none (by omega),List.getElem?_eq_none (by simpa using h)]
   rfl
theorem LiveAt.g {w:World} {Bw gl gk gp ga:Nat} {vl vo vt:Value} {B n rate:Nat} {L:List Nat} {C:List (Nat×Nat)} {tk:List Bool} (h:LiveAt w Bw gl gk gp ga vl vo vt B n rate L C tk) (hC:C.Pairwise (fun a b=>a.1 < b.1)) (hl:C.length≤1000):LiveG w Bw gl gk gp rate n L C:=
 ⟨⟨0,h.blk⟩,h.walk,B,ga,vl,vo,vt,_,_,C,tk, [],h.perm,range_sorted C hC,hl,by rw [List.length_range];exact hl,range_pairs C⟩
theorem samp_right {rs:List Nat} {rate n:Nat} (hn:n≤rs.length):∀x∈sampC rs rate n,rs[x.1]?=some x.2:=fun x hx=>by
 obtain ⟨h1,h2⟩:=sampC_mem hx
 rw [h2,List.getD_eq_getElem?_getD,List.getElem?_eq_getElem (show x.1 < rs.length by omega)]
 rfl
theorem samp_zero {t:List UInt8} {rs:List Nat} {rate:Nat} (hs:IsSuf (symL t) rs):∃x∈sampC rs rate (t.length+1),x.2=0:=by
 obtain ⟨j,hj,ej⟩:=hs.row (p:=0) (by rw [symL_len];omega)
 refine ⟨(j,0),(sampM _ _ _ _ _).2 ⟨?_,?_,Nat.zero_mod _⟩,rfl⟩
 · have:=hs.len
   rw [symL_len] at this
   omega
 · rw [List.getD_eq_getElem?_getD,List.getElem?_eq_getElem hj,ej]
   rfl
set_option maxRecDepth 100000 in
set_option maxHeartbeats 4000000 in
theorem LiveRowG_any (Bw gl gk gp rate:Nat) (t:List UInt8) (rs:List Nat) (C:List (Nat×Nat)) (i p:Nat) (w:World) (h:LiveG w Bw gl gk gp rate (t.length+1) (lastL (symL t) rs) C) (hrt:∀x∈C,rs[x.1]?=some x.2) (hs:IsSuf (symL t) rs) (hn:t.length≤127) (hip:rs[i]?=some p):
 Calls Tryz.prog 56 #[.pointer (some ⟨gl,0,none⟩),.int .i64 (p:Int)] w fun e w'=>e=.returned (.int .i64 (i:Int))∧VB Bw w w':=by
 have hl:rs.length=t.length+1:=by rw [hs.len,symL_len]
 have hL:(lastL (symL t) rs).length=t.length+1:=by rw [lastL_len,hl]
 have hpN:p < t.length+1:=by
  have:=hs.lt (List.mem_of_getElem? hip)
  rwa [symL_len] at this
 have hr0:=row_zero hs
 obtain ⟨N,hN⟩:∃N,t.length=N:=⟨_,rfl⟩
 have hstep:∀a b:Nat,rs[a]?=some (b+1)→∃s a',(lastL (symL t) rs)[a]?=some s∧narL (lastL (symL t) rs) s a=a'∧rs[a']?=some b:=fun a b hab=>by
  obtain ⟨ha,ea⟩:=List.getElem?_eq_some_iff.1 hab
  have hbm:b+1 < (symL t).length:=hs.lt (List.mem_of_getElem? hab)
  obtain ⟨a',ha',ea'⟩:=hs.row (p:=b) (by omega)
  have he:=symL_end t
  have hla:=lastL_at he ha ea (by rw [symL_len] at hbm;omega)
  exact ⟨(symL t).getD b 0,a',List.getElem?_eq_some_iff.2 ⟨_,hla⟩,lf hs he ha ha' ea ea',List.getElem?_eq_some_iff.2 ⟨ha',ea'⟩⟩
 have hle:∀a b:Nat,rs[a]?=some b→b≤t.length∧a≤t.length:=fun a b hab=>by
  have h1:=hs.lt (List.mem_of_getElem? hab)
  rw [symL_len] at h1
  have h2:=(List.getElem?_eq_some_iff.1 hab).1
  omega
 have huni:∀a,rs[a]?=some p→a=i:=fun a ha=>row_inj hs ha hip
 rw [hN] at h
 rw [hN] at hL hpN hn hl hr0 hle
 have hp0:decide ((p:Int) < 0)=false:=by simp
 have hp1:¬N < p:=by omega
 have hp2:decide (N < p)=false:=decide_eq_false hp1
 have H:=Lib.hid h
 have Hr0:=Lib.hid hr0
 have HCm:=Lib.hid hrt
 have Hstep:=Lib.hid hstep
 have Hle:=Lib.hid hle
 have Huni:=Lib.hid huni
 have HL:=Lib.hid hL
 have HLt:=Lib.hid (lastL_lt (symL_lt t) (rs:=rs))
 obtain ⟨mv,hblk⟩:=h.blk
 have c0:=hblk.cell 0
 have c1:=hblk.cell 1
 have hlt:=hblk.lt
 clear h hr0 hrt hstep hle huni hL hs hip hN hl hblk
 go_enter Tryz.func56,Tryz.ntmps56
 go_wp2_with fail
 refine (LiveLen_any Bw gl _ N w H.out.lvw HL.out (by omega)).mono ?_
 rintro e w1 ⟨rfl,rfl⟩
 go_wp2_with fail
 refine (LiveLen_any Bw gl _ N w H.out.lvw HL.out (by omega)).mono ?_
 rintro e w1 ⟨rfl,rfl⟩
 go_wp2_with fail
 have hnext:=PermNextG_any gp (N+1) (N+1) C p w H.out.perm
 unfold LeastPost at hnext
 refine hnext.mono ?_
 rintro e w2 ⟨z,rfl,hz,hb2⟩
 clear hnext
 have hv2:VB Bw w w2:=VisK.of_below hb2
 have h2:=H.out.vis hv2.1
 obtain ⟨mv2,hblk2⟩:=h2.blk
 have c20:=hblk2.cell 0
 have c21:=hblk2.cell 1
 have hlt2:=hblk2.lt
 have H2:=Lib.hid h2
 have Hv2:=Lib.hid hv2
 clear hb2 hv2 h2 c0 c1 hlt hblk2
 rcases hz with ⟨hz,_⟩|⟨⟨k1,q⟩,hk,hz,hkp,_⟩
 · subst hz
   go_wp2_with fail
   go_loopw [5,6] (fun x y wr=>∃a r:Nat,p≤a∧a≤N∧rs[r]?=some a∧x=.int .i64 (a:Int)∧y=.int .i64 (r:Int)∧VB Bw w wr) (fun x _ _=>(intOf x).toNat)
   case atStart=>exact ⟨N,0,by omega,Nat.le_refl _,Hr0.out,rfl,rfl,Hv2.out⟩
   case round=>
    obtain ⟨a,r,hpa,haN,hra,rfl,rfl,hv⟩:=hrel
    have h1:=H.out.vis hv.1
    obtain ⟨mv1,hblk1⟩:=h1.blk
    have c10:=hblk1.cell 0
    have hlt1:=hblk1.lt
    have Hv:=Lib.hid hv
    have H1:=Lib.hid h1
    have Hra:=Lib.hid hra
    clear h1 hv hra hblk1
    by_cases hap:p < a
    · obtain ⟨b,hb⟩:∃b,a=b+1:=⟨a - 1,by omega⟩
      obtain ⟨s,r',hs1,hs2,hs3⟩:=Hstep.out r b (by rw [←hb];exact Hra.out)
      have e1:IntKind.i64.wrap ((a:Int) - 1)=(b:Int):=by rw [IntKind.wrap_i64];omega
      have Hs1:=Lib.hid hs1
      have Hs2:=Lib.hid hs2
      have Hs3:=Lib.hid hs3
      have hbp:p≤b:=by omega
      have hbN:b < a:=by omega
      clear hs1 hs2 hs3 hb
      go_wp2_with fail
      refine (WalkBack_any Bw gk _ r s wr H1.out.walk Hs1.out HLt.out (by rw [HL.out];omega)).mono ?_
      rintro e w5 ⟨rfl,hv5⟩
      rw [Hs2.out]
      have hv6:=Hv.out.trans hv5
      have Hv6:=Lib.hid hv6
      clear hv5 hv6
      go_wp2_with fail
      go_roundw
      case rel=>exact ⟨b,r',hbp,by omega,Hs3.out,by go_num,by first | rfl | trivial,Hv6.out⟩
      case measure=>simp [intOf];omega
    · obtain rfl:a=p:=by omega
      have hri:=Huni.out r Hra.out
      subst hri
      go_wp2_with fail
      go_ret
      exact ⟨rfl,Hv.out⟩
 · subst hz
   have hkp:p≤q:=hkp
   have hex:∃x∈C,x.2=q:=⟨_,hk,rfl⟩
   have hq0:decide ((q:Int)≥0)=true:=by simp
   go_wp2_with fail
   have hrow:=PermRowR_any gp (N+1) (N+1) C q w2 H2.out.perm hex
   unfold RowPostR at hrow
   refine hrow.mono ?_
   rintro e w3 ⟨r0,hrm,rfl,hb3⟩
   have hrq:=HCm.out _ hrm
   have hrq:rs[r0]?=some q:=hrq
   have hv3:=Hv2.out.below hb3
   have Hrq:=Lib.hid hrq
   have Hv3:=Lib.hid hv3
   have hqN:=(Hle.out r0 q hrq).1
   clear hrow hrm hrq hb3 hv3 hex c20 c21 hlt2 hq0
   go_wp2_with fail
   go_loopw [5,6] (fun x y wr=>∃a r:Nat,p≤a∧a≤N∧rs[r]?=some a∧x=.int .i64 (a:Int)∧y=.int .i64 (r:Int)∧VB Bw w wr) (fun x _ _=>(intOf x).toNat)
   case atStart=>exact ⟨q,r0,hkp,hqN,Hrq.out,rfl,rfl,Hv3.out⟩
   case round=>
    obtain ⟨a,r,hpa,haN,hra,rfl,rfl,hv⟩:=hrel
    have h1:=H.out.vis hv.1
    obtain ⟨mv1,hblk1⟩:=h1.blk
    have c10:=hblk1.cell 0
    have hlt1:=hblk1.lt
    have Hv:=Lib.hid hv
    have H1:=Lib.hid h1
    have Hra:=Lib.hid hra
    clear h1 hv hra hblk1
    by_cases hap:p < a
    · obtain ⟨b,hb⟩:∃b,a=b+1:=⟨a - 1,by omega⟩
      obtain ⟨s,r',hs1,hs2,hs3⟩:=Hstep.out r b (by rw [←hb];exact Hra.out)
      have e1:IntKind.i64.wrap ((a:Int) - 1)=(b:Int):=by rw [IntKind.wrap_i64];omega
      have Hs1:=Lib.hid hs1
      have Hs2:=Lib.hid hs2
      have Hs3:=Lib.hid hs3
      have hbp:p≤b:=by omega
      have hbN:b < a:=by omega
      clear hs1 hs2 hs3 hb
      go_wp2_with fail
      refine (WalkBack_any Bw gk _ r s wr H1.out.walk Hs1.out HLt.out (by rw [HL.out];omega)).mono ?_
      rintro e w5 ⟨rfl,hv5⟩
      rw [Hs2.out]
      have hv6:=Hv.out.trans hv5
      have Hv6:=Lib.hid hv6
      clear hv5 hv6
      go_wp2_with fail
      go_roundw
      case rel=>exact ⟨b,r',hbp,by omega,Hs3.out,by go_num,by first | rfl | trivial,Hv6.out⟩
      case measure=>simp [intOf];omega
    · obtain rfl:a=p:=by omega
      have hri:=Huni.out r Hra.out
      subst hri
      go_wp2_with fail
      go_ret
      exact ⟨rfl,Hv.out⟩
end Go.Proofs.YtipaccakmndkgaaGreatDoor
namespace Go.Proofs.YtipaccakmndkgaaGreatDoor
set_option linter.unusedVariables false
set_option linter.unusedSimpArgs false
def inR (r c:Nat):Nat:=if c≤r then r+1 else r
def outR (r g:Nat):Nat:=if g < r then r - 1 else r
abbrev ro (R:List Nat) (p:Nat):Nat:=R.idxOf p
theorem ro_get {R:List Nat} {p:Nat} (h:p∈R):R[ro R p]?=some p:=List.getElem?_eq_some_iff.2 ⟨List.idxOf_lt_length_iff.2 h,List.getElem_idxOf _⟩
theorem ro_of {R:List Nat} (hn:R.Nodup) {r p:Nat} (h:R[r]?=some p):ro R p=r:=by
 obtain ⟨hr,e⟩:=List.getElem?_eq_some_iff.1 h
 subst e
 exact hn.idxOf_getElem r hr
theorem ro_inj {R:List Nat} {p q:Nat} (hp:p∈R) (hq:q∈R) (h:ro R p=ro R q):p=q:=by
 have h1:=ro_get hp
 rw [h,ro_get hq] at h1
 injection h1 with h1
 exact h1.symm
theorem ro_move {R:List Nat} (hn:R.Nodup) {a t x:Nat} (ha:R[a]?=some x) (ht:t < R.length):
 (insN (delN R a) t x).Perm R∧ro (insN (delN R a) t x) x=t∧∀p∈R,p≠x→ro (insN (delN R a) t x) p=inR (outR (ro R p) a) t:=by
 have hal:=(List.getElem?_eq_some_iff.1 ha).1
 have hdl:=delN_len R hal
 have hperm:(insN (delN R a) t x).Perm R:=(insN_perm _ _ _).trans (delN_perm ha)
 have hn':(insN (delN R a) t x).Nodup:=hperm.nodup_iff.2 hn
 refine ⟨hperm,?_,fun p hp hpx=>?_⟩
 · refine ro_of hn' ?_
   rw [insN_get _ _ (by omega),if_neg (by omega),if_pos rfl]
 · have h1:=ro_get hp
   have hne:ro R p≠a:=fun e=>by
    rw [e,ha] at h1
    injection h1 with h1
    exact hpx h1.symm
   refine ro_of hn' ?_
   have hlt:=(List.getElem?_eq_some_iff.1 h1).1
   rw [insN_get _ _ (by omega)]
   unfold inR outR
   by_cases c1:a < ro R p
   · rw [if_pos c1]
     by_cases c2:t≤ro R p - 1
     · rw [if_pos c2,if_neg (by omega),if_neg (by omega),delN_get _ hal,if_neg (by omega)]
       rw [←h1]
       congr 1
       omega
     · rw [if_neg c2,if_pos (by omega),delN_get _ hal,if_neg (by omega),←h1]
       congr 1
       omega
   · rw [if_neg c1]
     by_cases c2:t≤ro R p
     · rw [if_pos c2,if_neg (by omega),if_neg (by omega),delN_get _ hal,if_pos (by omega),←h1]
       congr 1
     · rw [if_neg c2,if_pos (by omega),delN_get _ hal,if_pos (by omega),←h1]
def keyR (S R:List Nat) (p q:Nat):Prop:=S.getD p 0 < S.getD q 0∨(S.getD p 0=S.getD q 0∧ro R (p+1) < ro R (q+1))
structure Near (S R:List Nat) (N i:Nat):Prop where
 endk:EndOk S N
 perm:R.Perm (List.range (N+1))
 first:∀p q,p≤N→q≤N→ro R p < ro R q→S.getD p 0≤S.getD q 0
 cons:∀p q,p≤N→q≤N→p≠q→p+1≠i→q+1≠i→(ro R p < ro R q↔keyR S R p q)
section
variable {S R : List Nat} {N i : Nat}
theorem Near.nodup (h:Near S R N i):R.Nodup:=h.perm.nodup_iff.2 List.nodup_range
theorem Near.mem (h:Near S R N i) {p:Nat}:p∈R↔p≤N:=by
 rw [h.perm.mem_iff,List.mem_range]
 omega
theorem Near.len (h:Near S R N i):R.length=N+1:=by simpa using h.perm.length_eq
theorem ltS_step {S:List Nat} {p q:Nat} (hp:p < S.length) (hq:q < S.length) (he:S.getD p 0=S.getD q 0) (h:sufLt S (p+1) (q+1)):sufLt S p q:=by
 obtain ⟨w,k,h1,h2,h3⟩:=h
 refine ⟨w+1,k+1,by omega,fun m hm=>?_,?_⟩
 · cases m with
   | zero=>
     rw [Nat.add_zero,Nat.add_zero,aN_getD hp,aN_getD hq,he]
   | succ m=>
     have:=h2 m (by omega)
     rw [show p+(m+1)=p+1+m by omega,show q+(m+1)=q+1+m by omega]
     exact this
 · rw [show p+(k+1)=p+1+k by omega,show q+(k+1)=q+1+k by omega]
   exact h3
theorem ltS_now {S:List Nat} {p q:Nat} (hp:p < S.length) (hq:q < S.length) (he:S.getD p 0 < S.getD q 0):sufLt S p q:=by
 refine ⟨1,0,by omega,fun m hm=>by omega,?_⟩
 rw [Nat.add_zero,Nat.add_zero,aN_getD hp,aN_getD hq]
 omega
theorem Near.sorted (h:Near S R N 0):IsSuf S R:=by
 obtain ⟨e1,e2,e3⟩:=h.endk
 have key:∀d p q,N < p+d→p≤N→q≤N→p≠q→ro R p < ro R q→sufLt S p q:=by
  intro d
  induction d with
  | zero=>intro p q hd hp;omega
  | succ d ih=>
    intro p q hd hp hq hpq hlt
    rcases (h.cons p q hp hq hpq (by omega) (by omega)).1 hlt with h1 |⟨h1,h2⟩
    · exact ltS_now (by omega) (by omega) h1
    · have hpN:p≠N:=fun e=>by
       subst e
       have:=e3 q (by omega)
       omega
      have hqN:q≠N:=fun e=>by
       subst e
       have:=e3 p (by omega)
       omega
      exact ltS_step (by omega) (by omega) h1 (ih (p+1) (q+1) (by omega) (by omega) (by omega) (by omega) h2)
 refine ⟨by rw [e1];exact h.perm,?_⟩
 rw [List.pairwise_iff_getElem]
 intro a b ha hb hab
 have hn:=h.nodup
 have hpa:R[a]≤N:=h.mem.1 (List.getElem_mem ha)
 have hpb:R[b]≤N:=h.mem.1 (List.getElem_mem hb)
 have ra:ro R R[a]=a:=ro_of hn (List.getElem?_eq_getElem ha)
 have rb:ro R R[b]=b:=ro_of hn (List.getElem?_eq_getElem hb)
 exact key (N+1) _ _ (by omega) hpa hpb (fun e=>by rw [e,rb] at ra;omega) (by rw [ra,rb];exact hab)
theorem IsSuf.near (h:IsSuf S R) (he:EndOk S N):Near S R N 0:=by
 obtain ⟨e1,e2,e3⟩:=he
 have hperm:R.Perm (List.range (N+1)):=by rw [←e1];exact h.perm
 have hn:=h.nodup
 have hm:∀p,p≤N→p∈R:=fun p hp=>h.mem (by omega)
 have hs:∀p q,p≤N→q≤N→ro R p < ro R q→sufLt S p q:=fun p q hp hq hlt=>by
  have hpl:=(List.getElem?_eq_some_iff.1 (ro_get (hm p hp)))
  have hql:=(List.getElem?_eq_some_iff.1 (ro_get (hm q hq)))
  obtain ⟨h1,h2⟩:=hpl
  obtain ⟨h3,h4⟩:=hql
  have:=List.pairwise_iff_getElem.1 h.sorted _ _ h1 h3 hlt
  rwa [h2,h4] at this
 have hs2:∀p q,p≤N→q≤N→sufLt S p q→ro R p < ro R q:=fun p q hp hq hlt=>by
  rcases Nat.lt_trichotomy (ro R p) (ro R q) with h1 | h1 | h1
  · exact h1
  · have:=ro_inj (hm p hp) (hm q hq) h1
    subst this
    exact (hlt.asymm hlt).elim
  · exact (hlt.asymm (hs q p hq hp h1)).elim
 have hk:∀p q,p≤N→q≤N→sufLt S p q→S.getD p 0≤S.getD q 0:=fun p q hp hq ⟨w,k,h1,h2,h3⟩=>by
  cases k with
  | zero=>
    rw [Nat.add_zero,Nat.add_zero,aN_getD (by omega),aN_getD (by omega)] at h3
    omega
  | succ k=>
    have:=h2 0 (by omega)
    rw [Nat.add_zero,Nat.add_zero,aN_getD (by omega),aN_getD (by omega)] at this
    omega
 have hk2:∀p q,p≤N→q≤N→p≠q→S.getD p 0=S.getD q 0→(sufLt S p q↔sufLt S (p+1) (q+1)):=fun p q hp hq hpq heq=>by
  constructor
  · rintro ⟨w,k,h1,h2,h3⟩
    cases k with
    | zero=>
      rw [Nat.add_zero,Nat.add_zero,aN_getD (by omega),aN_getD (by omega)] at h3
      omega
    | succ k=>
      refine ⟨k+1,k,by omega,fun m hm=>?_,?_⟩
      · have:=h2 (m+1) (by omega)
        rw [show p+1+m=p+(m+1) by omega,show q+1+m=q+(m+1) by omega]
        exact this
      · rw [show p+1+k=p+(k+1) by omega,show q+1+k=q+(k+1) by omega]
        exact h3
  · exact ltS_step (by omega) (by omega) heq
 refine ⟨⟨e1,e2,e3⟩,hperm,fun p q hp hq hlt=>hk p q hp hq (hs p q hp hq hlt),fun p q hp hq hpq _ _=>?_⟩
 unfold keyR
 constructor
 · intro hlt
   have h1:=hs p q hp hq hlt
   rcases Nat.lt_or_eq_of_le (hk p q hp hq h1) with h2 | h2
   · exact .inl h2
   · refine .inr ⟨h2,?_⟩
     have hpN:p≠N:=fun e=>by
        subst e
        have:=e3 q (by omega)
        omega
     have hqN:q≠N:=fun e=>by
        subst e
        have:=e3 p (by omega)
        omega
     exact hs2 _ _ (by omega) (by omega) ((hk2 p q hp hq hpq h2).1 h1)
 · rintro (h1 |⟨h1,h2⟩)
   · exact hs2 p q hp hq (ltS_now (by omega) (by omega) h1)
   · have hpN:p≠N:=fun e=>by
        subst e
        have:=e3 q (by omega)
        omega
     have hqN:q≠N:=fun e=>by
        subst e
        have:=e3 p (by omega)
        omega
     exact hs2 p q hp hq ((hk2 p q hp hq hpq h1).2 (hs _ _ (by omega) (by omega) h2))
def kcnt (S R:List Nat) (N c r:Nat):Nat:=(List.range (N+1)).countP fun p=>decide (S.getD p 0 < c∨(S.getD p 0=c∧ro R (p+1) < r))
theorem take_cntP {R:List Nat} (hn:R.Nodup) (r:Nat) (f:Nat→Bool):(R.take r).countP f=R.countP fun p=>f p&&decide (ro R p < r):=by
 have h1:R.countP (fun p=>f p&&decide (ro R p < r))=(R.take r).countP (fun p=>f p&&decide (ro R p < r))+(R.drop r).countP (fun p=>f p&&decide (ro R p < r)):=by
  rw [←List.countP_append,List.take_append_drop]
 have h2:(R.drop r).countP (fun p=>f p&&decide (ro R p < r))=0:=by
  rw [List.countP_eq_zero]
  intro p hp
  obtain ⟨j,hj,e⟩:=List.mem_iff_getElem.1 hp
  rw [List.getElem_drop] at e
  have:ro R p=r+j:=ro_of hn (by rw [←e];exact List.getElem?_eq_getElem _)
  simp
  omega
 have h3:(R.take r).countP (fun p=>f p&&decide (ro R p < r))=(R.take r).countP f:=by
  refine List.countP_congr fun p hp=>?_
  obtain ⟨j,hj,e⟩:=List.mem_iff_getElem.1 hp
  rw [List.length_take] at hj
  rw [List.getElem_take] at e
  have:ro R p=j:=ro_of hn (by rw [←e];exact List.getElem?_eq_getElem _)
  have hjr:ro R p < r:=by omega
  simp [hjr]
 rw [h1,h2,h3]
 rfl
theorem countP_split {l:List Nat} {f g:Nat→Bool} (h:∀x∈l,¬(f x=true∧g x=true)):l.countP f+l.countP g=l.countP fun x=>f x||g x:=by
 induction l with
 | nil=>rfl
 | cons x l ih=>
   have hx:=h x (by simp)
   rw [List.countP_cons,List.countP_cons,List.countP_cons,←ih fun y hy=>h y (by simp [hy])]
   cases hf:f x <;> cases hg:g x <;> simp_all <;> omega
theorem narL_cnt (he:EndOk S N) (hp:R.Perm (List.range (N+1))) {c:Nat} (hc:0 < c) (r:Nat):narL (lastL S R) c r=kcnt S R N c r:=by
 obtain ⟨e1,e2,e3⟩:=he
 have hn:R.Nodup:=hp.nodup_iff.2 List.nodup_range
 unfold narL kcnt
 have h1:(lastL S R).countP (fun x=>decide (x < c))=(List.range (N+1)).countP fun p=>decide (S.getD p 0 < c):=by
  unfold lastL
  rw [List.countP_map,hp.countP_eq]
  refine count_prev _ _ ?_ fun p hp=>?_
  · simp only [Function.comp]
    rw [prevL_zero (by omega),e1]
    rfl
  · simp only [Function.comp]
    rw [prevL_succ (by omega)]
 have h2:((lastL S R).take r).count c=(List.range (N+1)).countP fun p=>decide (S.getD p 0=c)&&decide (ro R (p+1) < r):=by
  unfold lastL
  rw [←List.map_take,List.count_eq_countP,List.countP_map,take_cntP hn,hp.countP_eq]
  refine count_prev _ _ ?_ fun p hp=>?_
  · simp only [Function.comp]
    rw [prevL_zero (by omega),e1]
    have:(N+1 - 1)=N:=by omega
    rw [this,e2]
    have hc0:¬(0:Nat)=c:=by omega
    simp [hc0]
  · simp only [Function.comp]
    rw [prevL_succ (by omega)]
    rfl
 rw [h1,h2,countP_split]
 · refine List.countP_congr fun p _=>?_
   simp
 · intro p _ ⟨ha,hb⟩
   simp at ha hb
   omega
theorem pre_lt {K:Nat→Bool}:∀ {O:List Nat},O.Pairwise (fun p q=>K q=true→K p=true)→∀(j p:Nat),O[j]?=some p→(K p=true↔j < O.countP K)
 | [],_,j,p,h=>by simp at h
 | x::O,hO,j,p,h=>by
   obtain ⟨h1,h2⟩:=List.pairwise_cons.1 hO
   cases hx:K x with
   | true=>
     rw [List.countP_cons_of_pos hx]
     cases j with
     | zero=>
       injection h with h
       subst h
       simp [hx]
     | succ j=>
       rw [pre_lt h2 j p h]
       omega
   | false=>
     have h0:(x::O).countP K=0:=by
        rw [List.countP_eq_zero]
        intro y hy
        rcases List.mem_cons.1 hy with rfl | hy
        · simp [hx]
        · intro hk
          have:=h1 y hy hk
          rw [hx] at this
          cases this
     rw [h0]
     have hp:p∈x::O:=List.mem_of_getElem? h
     have:=(List.countP_eq_zero.1 h0) p hp
     simp [this]
def KB (S R:List Nat) (i p:Nat):Bool:=decide (S.getD p 0 < S.getD i 0∨(S.getD p 0=S.getD i 0∧ro R (p+1) < ro R (i+1)))
theorem kcnt_lt (h:Near S R N (i+1)) (hi:i≤N):∀p,p≤N→p≠i→(KB S R i p=true↔outR (ro R p) (ro R i) < kcnt S R N (S.getD i 0) (ro R (i+1))):=by
 intro p hp hpi
 have hn:=h.nodup
 have hgi:=ro_get (h.mem.2 hi)
 have hgp:=ro_get (h.mem.2 hp)
 have hil:=(List.getElem?_eq_some_iff.1 hgi).1
 have hperm:=delN_perm hgi
 have hnd:(delN R (ro R i)).Nodup:=(List.nodup_cons.1 (hperm.nodup_iff.2 hn)).2
 have hne:ro R p≠ro R i:=fun e=>hpi (ro_inj (h.mem.2 hp) (h.mem.2 hi) e)
 have hat:(delN R (ro R i))[outR (ro R p) (ro R i)]?=some p:=by
  unfold outR
  rw [delN_get _ hil]
  by_cases c:ro R i < ro R p
  · rw [if_pos c,if_neg (by omega),←hgp]
    congr 1
    omega
  · rw [if_neg c,if_pos (by omega),←hgp]
 have hcnt:kcnt S R N (S.getD i 0) (ro R (i+1))=(delN R (ro R i)).countP (KB S R i):=by
  unfold kcnt
  rw [←h.perm.countP_eq,←hperm.countP_eq,List.countP_cons]
  have h0:decide (S.getD i 0 < S.getD i 0∨(S.getD i 0=S.getD i 0∧ro R (i+1) < ro R (i+1)))=false:=by
   rw [decide_eq_false_iff_not]
   omega
  rw [h0]
  rfl
 rw [hcnt]
 refine pre_lt ?_ _ _ hat
 rw [List.pairwise_iff_getElem]
 intro a b ha hb hab hkb
 have hda:(delN R (ro R i))[a]?=some (delN R (ro R i))[a]:=List.getElem?_eq_getElem ha
 have hdb:(delN R (ro R i))[b]?=some (delN R (ro R i))[b]:=List.getElem?_eq_getElem hb
 obtain ⟨x,hx⟩:∃x,(delN R (ro R i))[a]=x:=⟨_,rfl⟩
 obtain ⟨y,hy⟩:∃y,(delN R (ro R i))[b]=y:=⟨_,rfl⟩
 rw [hx] at hda⊢
 rw [hy] at hdb hkb
 have hni:=(List.nodup_cons.1 (hperm.nodup_iff.2 hn)).1
 have hma:=List.mem_of_getElem? hda
 have hmb:=List.mem_of_getElem? hdb
 have hxi:x≠i:=fun e=>hni (by rw [e] at hma;exact hma)
 have hyi:y≠i:=fun e=>hni (by rw [e] at hmb;exact hmb)
 have hxR:x∈R:=hperm.subset (by simp [List.mem_of_getElem? hda])
 have hyR:y∈R:=hperm.subset (by simp [List.mem_of_getElem? hdb])
 have hxN:=h.mem.1 hxR
 have hyN:=h.mem.1 hyR
 have rx:∀ {a' x':Nat},(delN R (ro R i))[a']?=some x'→ro R x'=if a' < ro R i then a' else a'+1:=fun {a' x'} hh=>by
  rw [delN_get _ hil] at hh
  split at hh
  · rw [if_pos (by assumption)]
    exact ro_of hn hh
  · rw [if_neg (by assumption)]
    exact ro_of hn hh
 have hlt:ro R x < ro R y:=by
  rw [rx hda,rx hdb]
  split <;> split <;> omega
 have hxy:x≠y:=fun e=>by
  subst e
  omega
 have hk:=(h.cons x y hxN hyN hxy (by omega) (by omega)).1 hlt
 unfold KB at hkb⊢
 rw [decide_eq_true_eq] at hkb⊢
 unfold keyR at hk
 omega
def tgt (S R:List Nat) (i:Nat):Nat:=narL (lastL S R) (S.getD i 0) (ro R (i+1))
theorem tgt_eq (h:Near S R N (i+1)) (hi:i < N):tgt S R i=kcnt S R N (S.getD i 0) (ro R (i+1)):=narL_cnt h.endk h.perm (h.endk.pos i hi) _
theorem tgt_lt (h:Near S R N (i+1)) (hi:i < N):tgt S R i < N+1:=by
 rw [tgt_eq h hi]
 unfold kcnt
 have hb:(List.range (N+1)).countP (fun p=>decide (S.getD p 0 < S.getD i 0∨(S.getD p 0=S.getD i 0∧ro R (p+1) < ro R (i+1))))≠(List.range (N+1)).length:=fun e=>by
  have:=(List.countP_eq_length.1 e) i (by simp;omega)
  rw [decide_eq_true_eq] at this
  omega
 have hle:=List.countP_le_length (p:=fun p=>decide (S.getD p 0 < S.getD i 0∨(S.getD p 0=S.getD i 0∧ro R (p+1) < ro R (i+1)))) (l:=List.range (N+1))
 rw [List.length_range] at hb hle
 omega
theorem near_go (h:Near S R N (i+1)) (hi:i < N) {R':List Nat} {t:Nat} (ht:t=tgt S R i) (hp':R'.Perm R) (hi':ro R' i=t) (ho:∀p∈R,p≠i→ro R' p=inR (outR (ro R p) (ro R i)) t) (j:Nat) (hj:j=i∨(ro R i=t∧j=0)):Near S R' N j:=by
 have hk:=kcnt_lt h (by omega)
 rw [←tgt_eq h hi,←ht] at hk
 have hmem:∀p,p≤N→p∈R:=fun p hp=>h.mem.2 hp
 have hne:∀p,p≤N→p≠i→ro R p≠ro R i:=fun p hp hpi e=>hpi (ro_inj (hmem p hp) (hmem i (by omega)) e)
 have hord:∀p q,p≤N→q≤N→p≠i→q≠i→(ro R' p < ro R' q↔ro R p < ro R q):=fun p q hp hq hpi hqi=>by
  rw [ho p (hmem p hp) hpi,ho q (hmem q hq) hqi]
  have h1:=hne p hp hpi
  have h2:=hne q hq hqi
  unfold inR outR
  split <;> split <;> split <;> split <;> omega
 have hbef:∀p,p≤N→p≠i→(ro R' p < ro R' i↔KB S R i p=true):=fun p hp hpi=>by
  rw [hk p hp hpi,hi',ho p (hmem p hp) hpi]
  unfold inR
  split <;> omega
 have haft:∀p,p≤N→p≠i→(ro R' i < ro R' p↔¬KB S R i p=true):=fun p hp hpi=>by
  rw [hk p hp hpi,hi',ho p (hmem p hp) hpi]
  unfold inR
  split <;> omega
 have hsucc:∀p,p < N→p≠i→(p+1≠i∨ro R i=t)→(ro R (p+1) < ro R (i+1)↔ro R' (p+1) < ro R' (i+1)):=fun p hp hpi hc=>by
  rcases hc with hc | hc
  · exact (hord (p+1) (i+1) (by omega) (by omega) hc (by omega)).symm
  · have he:∀q,q≤N→ro R' q=ro R q:=fun q hq=>by
        by_cases hqi:q=i
        · subst hqi
          omega
        · rw [ho q (hmem q hq) hqi,hc]
          have:=hne q hq hqi
          unfold inR outR
          split <;> split <;> omega
    rw [he _ (by omega),he _ (by omega)]
 obtain ⟨e1,e2,e3⟩:=h.endk
 refine ⟨h.endk,hp'.trans h.perm,fun p q hp hq hlt=>?_,fun p q hp hq hpq hpj hqj=>?_⟩
 · by_cases hpi:p=i
   · subst hpi
     by_cases hqi:q=p
     · subst hqi
       omega
     · have:=(haft q hq hqi).1 hlt
       unfold KB at this
       rw [decide_eq_true_eq] at this
       omega
   · by_cases hqi:q=i
     · subst hqi
       have:=(hbef p hp hpi).1 hlt
       unfold KB at this
       rw [decide_eq_true_eq] at this
       omega
     · exact h.first p q hp hq ((hord p q hp hq hpi hqi).1 hlt)
 · have hend:∀x y,x≤N→y≤N→x≠y→S.getD x 0=S.getD y 0→x < N∧y < N:=fun x y hx hy hxy hxye=>by
    refine ⟨Nat.lt_of_le_of_ne hx fun e=>?_,Nat.lt_of_le_of_ne hy fun e=>?_⟩
    · subst e
      have:=e3 y (by omega)
      omega
    · subst e
      have:=e3 x (by omega)
      omega
   by_cases hpi:p=i
   · subst hpi
     have hqi:q≠p:=fun e=>hpq e.symm
     rw [haft q hq hqi]
     unfold KB keyR
     rw [decide_eq_true_eq]
     by_cases hee:S.getD q 0=S.getD p 0
     · obtain ⟨hx1,hx2⟩:=hend q p hq hp hqi hee
       have:=hsucc q hx1 hqi (by omega)
       have hneq:ro R (q+1)≠ro R (p+1):=fun e=>hqi (by have:=ro_inj (hmem (q+1) (by omega)) (hmem (p+1) (by omega)) e;omega)
       have hneq':ro R' (q+1)≠ro R' (p+1):=fun e=>hqi (by have:=ro_inj ((hp'.trans h.perm).mem_iff.2 (by simp;omega)) ((hp'.trans h.perm).mem_iff.2 (by simp;omega)) e;omega)
       omega
     · omega
   · by_cases hqi:q=i
     · subst hqi
       rw [hbef p hp hpi]
       unfold KB keyR
       rw [decide_eq_true_eq]
       by_cases hee:S.getD p 0=S.getD q 0
       · obtain ⟨hx1,hx2⟩:=hend p q hp hq hpi hee
         have:=hsucc p hx1 hpi (by omega)
         omega
       · omega
     · rw [hord p q hp hq hpi hqi,h.cons p q hp hq hpq (by omega) (by omega)]
       unfold keyR
       by_cases hee:S.getD p 0=S.getD q 0
       · obtain ⟨hx1,hx2⟩:=hend p q hp hq hpq hee
         by_cases hz:ro R i=t
         · have he:∀q,q≤N→ro R' q=ro R q:=fun q hq=>by
            by_cases hqi:q=i
            · subst hqi
              omega
            · rw [ho q (hmem q hq) hqi,hz]
              have:=hne q hq hqi
              unfold inR outR
              split <;> split <;> omega
           rw [he _ (by omega),he _ (by omega)]
         · rw [hord (p+1) (q+1) (by omega) (by omega) (by omega) (by omega)]
       · omega
end
end Go.Proofs.YtipaccakmndkgaaGreatDoor
