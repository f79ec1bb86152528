/- A text by any right pairs (LiveG): the walk of live's Row. Conditions: a text of at most 127 bytes. -/
import Derived.Test.YtipaccakmndkgaaGreatPwa32
import Derived.Test.YtipaccakmndkgaaGreatPwa33
namespace Go.Proofs.YtipaccakmndkgaaGreat
open Go.RowKit
set_option linter.unusedVariables false
set_option linter.unusedSimpArgs false
structure LiveG (w:World) (Bw gl gk gp rate n:Nat) (L:List Nat) (pr:List (Nat×Nat)):Prop where
 blk:∃mv:Int,Bk w gl 42 #[.pointer (some ⟨gk,0,none⟩),.pointer (some ⟨gp,0,none⟩),.int .i64 (rate:Int),.int .i64 mv]
 walk:WalkAt w Bw gk L
 perm:PermR w gp n n pr
theorem LiveG.vis {w w':World} {Bw gl gk gp rate n:Nat} {L:List Nat} {pr:List (Nat×Nat)} (h:LiveG w Bw gl gk gp rate n L pr) (k:Vis w w'):LiveG w' Bw gl gk gp rate n L pr:=by
 obtain ⟨mv,h1⟩:=h.blk
 exact ⟨⟨mv,k.bk h1 (by decide) (by decide)⟩,h.walk.vis k,h.perm.vis k⟩
theorem LiveG.lvw {w:World} {Bw gl gk gp rate n:Nat} {L:List Nat} {pr:List (Nat×Nat)} (h:LiveG w Bw gl gk gp rate n L pr):LvW w Bw gl L:=by
 obtain ⟨mv,h1⟩:=h.blk
 exact ⟨gk,_,_,_,h1,h.walk⟩
theorem LiveG.mono {w:World} {Bw B' gl gk gp rate n:Nat} {L:List Nat} {pr:List (Nat×Nat)} (h:LiveG w Bw gl gk gp rate n L pr) (hB:B'≤Bw):LiveG w B' gl gk gp rate n L pr:=⟨h.blk,h.walk.mono hB,h.perm⟩
theorem LiveG.lt {w:World} {Bw gl gk gp rate n:Nat} {L:List Nat} {pr:List (Nat×Nat)} (h:LiveG w Bw gl gk gp rate n L pr):gl < w.heap.size:=h.lvw.lt
theorem range_pairs (C:List (Nat×Nat)):C=(List.range C.length).map fun k=>(rowK C k,posK C k):=by
 apply List.ext_getElem?
 intro i
 rw [List.getElem?_map]
 by_cases h:i < C.length
 · rw [List.getElem?_range h,List.getElem?_eq_getElem h]
   unfold rowK posK
   rw [Option.map_some,List.getD_eq_getElem?_getD,List.getElem?_eq_getElem h]
   rfl
 · rw [List.getElem?_eq_none (by omega),List.getElem?_eq_none (by simpa using h)]
   rfl
theorem LiveAt.g {w:World} {Bw gl gk gp ga:Nat} {vl vo vt:Value} {B n rate:Nat} {L:List Nat} {C:List (Nat×Nat)} {tk:List Bool} (h:LiveAt w Bw gl gk gp ga vl vo vt B n rate L C tk) (hC:C.Pairwise (fun a b=>a.1 < b.1)) (hl:C.length≤1000):LiveG w Bw gl gk gp rate n L C:=
 ⟨⟨0,h.blk⟩,h.walk,B,ga,vl,vo,vt,_,_,C,tk, [],h.perm,range_sorted C hC,hl,by rw [List.length_range];exact hl,range_pairs C⟩
theorem samp_right {rs:List Nat} {rate n:Nat} (hn:n≤rs.length):∀x∈sampC rs rate n,rs[x.1]?=some x.2:=fun x hx=>by
 obtain ⟨h1,h2⟩:=sampC_mem hx
 rw [h2,List.getD_eq_getElem?_getD,List.getElem?_eq_getElem (show x.1 < rs.length by omega)]
 rfl
theorem samp_zero {t:List UInt8} {rs:List Nat} {rate:Nat} (hs:IsSuf (symL t) rs):∃x∈sampC rs rate (t.length+1),x.2=0:=by
 obtain ⟨j,hj,ej⟩:=hs.row (p:=0) (by rw [symL_len];omega)
 refine ⟨(j,0),(sampM _ _ _ _ _).2 ⟨?_,?_,Nat.zero_mod _⟩,rfl⟩
 · have:=hs.len
   rw [symL_len] at this
   omega
 · rw [List.getD_eq_getElem?_getD,List.getElem?_eq_getElem hj,ej]
   rfl
set_option maxRecDepth 100000 in
set_option maxHeartbeats 4000000 in
theorem LiveRowG_any (Bw gl gk gp rate:Nat) (t:List UInt8) (rs:List Nat) (C:List (Nat×Nat)) (i p:Nat) (w:World) (h:LiveG w Bw gl gk gp rate (t.length+1) (lastL (symL t) rs) C) (hrt:∀x∈C,rs[x.1]?=some x.2) (hs:IsSuf (symL t) rs) (hn:t.length≤127) (hip:rs[i]?=some p):
 Calls Tryz.prog 20 #[.pointer (some ⟨gl,0,none⟩),.int .i64 (p:Int)] w fun e w'=>e=.returned (.int .i64 (i:Int))∧VB Bw w w':=by
 have hl:rs.length=t.length+1:=by rw [hs.len,symL_len]
 have hL:(lastL (symL t) rs).length=t.length+1:=by rw [lastL_len,hl]
 have hpN:p < t.length+1:=by
  have:=hs.lt (List.mem_of_getElem? hip)
  rwa [symL_len] at this
 have hr0:=row_zero hs
 obtain ⟨N,hN⟩:∃N,t.length=N:=⟨_,rfl⟩
 have hstep:∀a b:Nat,rs[a]?=some (b+1)→∃s a',(lastL (symL t) rs)[a]?=some s∧narL (lastL (symL t) rs) s a=a'∧rs[a']?=some b:=fun a b hab=>by
  obtain ⟨ha,ea⟩:=List.getElem?_eq_some_iff.1 hab
  have hbm:b+1 < (symL t).length:=hs.lt (List.mem_of_getElem? hab)
  obtain ⟨a',ha',ea'⟩:=hs.row (p:=b) (by omega)
  have he:=symL_end t
  have hla:=lastL_at he ha ea (by rw [symL_len] at hbm;omega)
  exact ⟨(symL t).getD b 0,a',List.getElem?_eq_some_iff.2 ⟨_,hla⟩,lf hs he ha ha' ea ea',List.getElem?_eq_some_iff.2 ⟨ha',ea'⟩⟩
 have hle:∀a b:Nat,rs[a]?=some b→b≤t.length∧a≤t.length:=fun a b hab=>by
  have h1:=hs.lt (List.mem_of_getElem? hab)
  rw [symL_len] at h1
  have h2:=(List.getElem?_eq_some_iff.1 hab).1
  omega
 have huni:∀a,rs[a]?=some p→a=i:=fun a ha=>row_inj hs ha hip
 rw [hN] at h
 rw [hN] at hL hpN hn hl hr0 hle
 have hp0:decide ((p:Int) < 0)=false:=by simp
 have hp1:¬N < p:=by omega
 have hp2:decide (N < p)=false:=decide_eq_false hp1
 have H:=Lib.hid h
 have Hr0:=Lib.hid hr0
 have HCm:=Lib.hid hrt
 have Hstep:=Lib.hid hstep
 have Hle:=Lib.hid hle
 have Huni:=Lib.hid huni
 have HL:=Lib.hid hL
 have HLt:=Lib.hid (lastL_lt (symL_lt t) (rs:=rs))
 obtain ⟨mv,hblk⟩:=h.blk
 have c0:=hblk.cell 0
 have c1:=hblk.cell 1
 have hlt:=hblk.lt
 clear h hr0 hrt hstep hle huni hL hs hip hN hl hblk
 go_enter Tryz.func20,Tryz.ntmps20
 go_wp2_with fail
 refine (LiveLen_any Bw gl _ N w H.out.lvw HL.out (by omega)).mono ?_
 rintro e w1 ⟨rfl,rfl⟩
 go_wp2_with fail
 refine (LiveLen_any Bw gl _ N w H.out.lvw HL.out (by omega)).mono ?_
 rintro e w1 ⟨rfl,rfl⟩
 go_wp2_with fail
 have hnext:=PermNextG_any gp (N+1) (N+1) C p w H.out.perm
 unfold LeastPost at hnext
 refine hnext.mono ?_
 rintro e w2 ⟨z,rfl,hz,hb2⟩
 clear hnext
 have hv2:VB Bw w w2:=VisK.of_below hb2
 have h2:=H.out.vis hv2.1
 obtain ⟨mv2,hblk2⟩:=h2.blk
 have c20:=hblk2.cell 0
 have c21:=hblk2.cell 1
 have hlt2:=hblk2.lt
 have H2:=Lib.hid h2
 have Hv2:=Lib.hid hv2
 clear hb2 hv2 h2 c0 c1 hlt hblk2
 rcases hz with ⟨hz,_⟩|⟨⟨k1,q⟩,hk,hz,hkp,_⟩
 · subst hz
   go_wp2_with fail
   go_loopw [5,6] (fun x y wr=>∃a r:Nat,p≤a∧a≤N∧rs[r]?=some a∧x=.int .i64 (a:Int)∧y=.int .i64 (r:Int)∧VB Bw w wr) (fun x _ _=>(intOf x).toNat)
   case atStart=>exact ⟨N,0,by omega,Nat.le_refl _,Hr0.out,rfl,rfl,Hv2.out⟩
   case round=>
    obtain ⟨a,r,hpa,haN,hra,rfl,rfl,hv⟩:=hrel
    have h1:=H.out.vis hv.1
    obtain ⟨mv1,hblk1⟩:=h1.blk
    have c10:=hblk1.cell 0
    have hlt1:=hblk1.lt
    have Hv:=Lib.hid hv
    have H1:=Lib.hid h1
    have Hra:=Lib.hid hra
    clear h1 hv hra hblk1
    by_cases hap:p < a
    · obtain ⟨b,hb⟩:∃b,a=b+1:=⟨a - 1,by omega⟩
      obtain ⟨s,r',hs1,hs2,hs3⟩:=Hstep.out r b (by rw [←hb];exact Hra.out)
      have e1:IntKind.i64.wrap ((a:Int) - 1)=(b:Int):=by rw [IntKind.wrap_i64];omega
      have Hs1:=Lib.hid hs1
      have Hs2:=Lib.hid hs2
      have Hs3:=Lib.hid hs3
      have hbp:p≤b:=by omega
      have hbN:b < a:=by omega
      clear hs1 hs2 hs3 hb
      go_wp2_with fail
      refine (WalkBack_any Bw gk _ r s wr H1.out.walk Hs1.out HLt.out (by rw [HL.out];omega)).mono ?_
      rintro e w5 ⟨rfl,hv5⟩
      rw [Hs2.out]
      have hv6:=Hv.out.trans hv5
      have Hv6:=Lib.hid hv6
      clear hv5 hv6
      go_wp2_with fail
      go_roundw
      case rel=>exact ⟨b,r',hbp,by omega,Hs3.out,by go_num,by first | rfl | trivial,Hv6.out⟩
      case measure=>simp [intOf];omega
    · obtain rfl:a=p:=by omega
      have hri:=Huni.out r Hra.out
      subst hri
      go_wp2_with fail
      go_ret
      exact ⟨rfl,Hv.out⟩
 · subst hz
   have hkp:p≤q:=hkp
   have hex:∃x∈C,x.2=q:=⟨_,hk,rfl⟩
   have hq0:decide ((q:Int)≥0)=true:=by simp
   go_wp2_with fail
   have hrow:=PermRowR_any gp (N+1) (N+1) C q w2 H2.out.perm hex
   unfold RowPostR at hrow
   refine hrow.mono ?_
   rintro e w3 ⟨r0,hrm,rfl,hb3⟩
   have hrq:=HCm.out _ hrm
   have hrq:rs[r0]?=some q:=hrq
   have hv3:=Hv2.out.below hb3
   have Hrq:=Lib.hid hrq
   have Hv3:=Lib.hid hv3
   have hqN:=(Hle.out r0 q hrq).1
   clear hrow hrm hrq hb3 hv3 hex c20 c21 hlt2 hq0
   go_wp2_with fail
   go_loopw [5,6] (fun x y wr=>∃a r:Nat,p≤a∧a≤N∧rs[r]?=some a∧x=.int .i64 (a:Int)∧y=.int .i64 (r:Int)∧VB Bw w wr) (fun x _ _=>(intOf x).toNat)
   case atStart=>exact ⟨q,r0,hkp,hqN,Hrq.out,rfl,rfl,Hv3.out⟩
   case round=>
    obtain ⟨a,r,hpa,haN,hra,rfl,rfl,hv⟩:=hrel
    have h1:=H.out.vis hv.1
    obtain ⟨mv1,hblk1⟩:=h1.blk
    have c10:=hblk1.cell 0
    have hlt1:=hblk1.lt
    have Hv:=Lib.hid hv
    have H1:=Lib.hid h1
    have Hra:=Lib.hid hra
    clear h1 hv hra hblk1
    by_cases hap:p < a
    · obtain ⟨b,hb⟩:∃b,a=b+1:=⟨a - 1,by omega⟩
      obtain ⟨s,r',hs1,hs2,hs3⟩:=Hstep.out r b (by rw [←hb];exact Hra.out)
      have e1:IntKind.i64.wrap ((a:Int) - 1)=(b:Int):=by rw [IntKind.wrap_i64];omega
      have Hs1:=Lib.hid hs1
      have Hs2:=Lib.hid hs2
      have Hs3:=Lib.hid hs3
      have hbp:p≤b:=by omega
      have hbN:b < a:=by omega
      clear hs1 hs2 hs3 hb
      go_wp2_with fail
      refine (WalkBack_any Bw gk _ r s wr H1.out.walk Hs1.out HLt.out (by rw [HL.out];omega)).mono ?_
      rintro e w5 ⟨rfl,hv5⟩
      rw [Hs2.out]
      have hv6:=Hv.out.trans hv5
      have Hv6:=Lib.hid hv6
      clear hv5 hv6
      go_wp2_with fail
      go_roundw
      case rel=>exact ⟨b,r',hbp,by omega,Hs3.out,by go_num,by first | rfl | trivial,Hv6.out⟩
      case measure=>simp [intOf];omega
    · obtain rfl:a=p:=by omega
      have hri:=Huni.out r Hra.out
      subst hri
      go_wp2_with fail
      go_ret
      exact ⟨rfl,Hv.out⟩
end Go.Proofs.YtipaccakmndkgaaGreat
