/- The walk of the wave's New. Conditions: at most 128 symbols, below 257. The walk of sorted.Last: the symbols ahead of the sorted suffixes. Conditions: at most 200 bytes. -/
import Derived.Test.YtipaccakmndkgaaGreatDoorPsl13
import Derived.Test.YtipaccakmndkgaaGreatDoorPsl14
set_option linter.unusedVariables false
set_option linter.unusedSimpArgs false
set_option maxRecDepth 100000
set_option maxHeartbeats 2000000
namespace Go.Proofs.YtipaccakmndkgaaGreatDoor
open Go.RowKit
theorem bools_info:(Tryz.prog.info? 209).map (fun i=>(i.zero,i.size,i.bytes))=some (some (.slice none 0 0),1,24):=by kernel_rfl
theorem shelf_info:(Tryz.prog.info? 177).map (fun i=>(i.zero,i.size,i.bytes))=some (some (.agg #[.pointer none,.int .i64 0,.int .i64 0]),3,24):=by kernel_rfl
theorem run_bits (n:Nat) (hn:n≤1000000) (w:World):(Instr.makeSlice 241 (.int .i64 (n:Int)) (.int .i64 (n:Int))).run Tryz.prog w=.ok (.slice (some ⟨w.heap.size,0,none⟩) n n) (w.alloc (.cells (rowC (fun _=>.slice none 0 0) n) 209)):=by
 obtain ⟨i0,hi0,hz0,hz1,hz2⟩:=info_parts bools_info
 have:=run_make (P:=Tryz.prog) w 241 209 i0 (.slice none 0 0) Tryz.underlying241 hi0 hz0 .i64 .i64 n n (by omega) (Int.le_refl _) (by rw [hz2];omega) (by omega)
 rw [this,hz1,rowC_const]
 have e:madeCells #[.slice none 0 0] n=Array.replicate n (.slice none 0 0):=by
  apply Array.ext'
  rw [toList_madeCells_one]
  simp
 simp only [Value.cells,Int.toNat_natCast,Nat.mul_one]
 rw [e]
def prevL (l:List Nat) (i:Nat):Nat:=l.getD ((i+l.length - 1)% l.length) 0
def lastL (l rs:List Nat):List Nat:=rs.map (prevL l)
theorem lastL_len (l rs:List Nat):(lastL l rs).length=rs.length:=by simp [lastL]
theorem prevL_lt {l:List Nat} (h:∀s∈l,s < 257) (i:Nat):prevL l i < 257:=by
 unfold prevL
 rw [List.getD_eq_getElem?_getD]
 cases e:l[(i+l.length - 1)% l.length]? with
 | none=>simp
 | some x=>simpa using h x (List.mem_of_getElem? e)
theorem lastL_lt {l rs:List Nat} (h:∀s∈l,s < 257):∀s∈lastL l rs,s < 257:=by
 intro s hs
 obtain ⟨i,_,rfl⟩:=List.mem_map.1 hs
 exact prevL_lt h i
theorem run_ints0 (n:Nat) (hn:n≤1000000) (w:World):(Instr.makeSlice 22 (.int .i64 0) (.int .i64 (n:Int))).run Tryz.prog w=.ok (.slice (some ⟨w.heap.size,0,none⟩) 0 n) (w.alloc (.cells (madeCells #[.int .i64 0] n) 3)):=by
 obtain ⟨i0,hi0,hz0,hz1,hz2⟩:=info_parts int_info
 have:=run_make (P:=Tryz.prog) w 22 3 i0 (.int .i64 0) Tryz.underlying22 hi0 hz0 .i64 .i64 0 n (by omega) (by omega) (by rw [hz2];omega) (by omega)
 rw [this,hz1]
 simp only [Value.cells,Int.toNat_natCast,Nat.mul_one]
 rfl
theorem rd_grown {w w':World} {sz n:Nat} {A:Option Addr} {xs:List Value} {row:Option Nat} (h:Rd w w.heap.size sz A n xs) (hg:w.grownBy w' row) (hA:∀a,A=some a→row≠some a.block):Rd w' w'.heap.size sz A n xs:=by
 refine ⟨h.1,fun hn=>?_⟩
 obtain ⟨b,off,rfl,hb,hc⟩:=h.2 hn
 refine ⟨b,off,rfl,Nat.lt_of_lt_of_le hb hg.size,fun j u hu=>?_⟩
 rw [World.cell?_of_block (w:=w) (hg.block b hb (fun e=>hA _ rfl e.symm))]
 exact hc j u hu
def Apt (v:Value) (A:Option Addr):Prop:=∀a,A=some a→v.ownBlock≠some a.block
theorem Apt.next {v v':Value} {A:Option Addr} {g:Nat} (h:Apt v A) (ho:v'.ownBlock=v.ownBlock∨v'.ownBlock=some g) (hA:∀a,A=some a→a.block < g):Apt v' A:=by
 intro a ha hb
 rcases ho with e | e
 · exact h a ha (e.symm.trans hb)
 · rw [e] at hb
   injection hb with hb
   have:=hA a ha
   omega
theorem SortedLast_any (A:Option Addr) (m c B:Nat) (t:List UInt8) (w:World) (hr:Rd w B 1 A m (t.map bv)) (hB:B≤w.heap.size) (hm:m≤200):
 Calls Tryz.prog 113 #[.slice A m c] w fun e w'=>∃rs A' c',IsSuf (symL t) rs∧e=.returned (.slice A' (m+1) c')∧Made w' w.heap.size 3 1 A' (m+1) c' ((lastL (symL t) rs).map sv)∧Below w.heap.size w w':=by
 obtain ⟨i0,hi0,hz0,hz1,hz2⟩:=info_parts int_info
 have htl:t.length=m:=by simpa using hr.1
 have Hr:=lhd hr
 have Htl:=lhd htl
 clear hr htl
 go_enter Tryz.func113,Tryz.ntmps113
 go_wp2_with fail
 obtain ⟨n,hn⟩:∃n,m+1=n:=⟨_,rfl⟩
 have hsa:=SymAll_any w.heap.size 0 A m c w.heap.size t (w.alloc (.cells #[.slice A m c] 23)) (Bk.new _ _ _) ((Hr.out.mono hB).alloc (Nat.le_refl _) _) (by simp) (by omega)
 have hrs:=fun W (hb:Below w.heap.size w W)=>SortedRows_any A m c w.heap.size t W ((Hr.out.mono hB).below hb) hb.size hm
 simp only [hn] at hsa hrs
 have hn2:n≤201:=by omega
 have hn1:1≤n:=by omega
 have hll:(symL t).length=n:=by rw [symL_len,Htl.out,hn]
 have HN:=lhd hn
 have Hll:=lhd hll
 have HRS:=lhd hrs
 clear hn hll hrs
 refine hsa.mono ?_
 clear hsa
 rintro e w1 ⟨A1,c1,rfl,hm1,hb1⟩
 have hb1':=((Below.refl w.heap.size w).alloc (Nat.le_refl _) _).trans (hb1.mono (by simp))
 have kz:=run_ints0 n (by omega)
 have Hm1:=lhd hm1
 have Hb1:=lhd hb1'
 clear hm1 hb1 hb1'
 go_wp2_with fail
 clear kz
 have hb2:=Hb1.out.alloc Hb1.out.size (.cells (madeCells #[.int .i64 0] n) 3)
 have hm2:=Hm1.out.below ((Below.refl _ _).alloc (Nat.le_refl _) (.cells (madeCells #[.int .i64 0] n) 3))
 have hown:(w1.alloc (.cells (madeCells #[.int .i64 0] n) 3)).ownsRow w.heap.size 3 1 (.slice (some ⟨w1.heap.size,0,none⟩) 0 n) 0 []:=World.ownsRow_made _ _ _ Hb1.out.size (by unfold maxLen;omega) (by simp [madeCells])
 obtain ⟨g1,hg1⟩:∃g,w1.heap.size=g:=⟨_,rfl⟩
 have hgs:g1 < (w1.alloc (.cells (madeCells #[.int .i64 0] n) 3)).heap.size:=by rw [←hg1];simp
 have hap1:Apt (.slice (some ⟨g1,0,none⟩) 0 n) A1:=by
  intro a ha hb
  obtain ⟨A9,c9,h9,_,h8⟩:=own_shape Hm1.out.own
  injection h9 with h9
  have:=(h8 a (h9.symm.trans ha)).2
  have hb':g1=a.block:=by simpa [Value.ownBlock] using hb
  omega
 have Hap1:=lhd hap1
 clear hap1
 rw [hg1] at hown⊢
 generalize w1.alloc (.cells (madeCells #[.int .i64 0] n) 3)=W2 at hb2 hm2 hown hgs⊢
 have Hown:=lhd hown
 have Hm2:=lhd hm2
 clear hown hm2 Hm1 Hb1 hg1
 refine (HRS.out W2 hb2).mono ?_
 rintro e w3 ⟨rs,A3,c3,hsuf,rfl,hm3,hb3⟩
 have hb3':=hb2.trans (hb3.mono hb2.size)
 have hown3:=own_below Hown.out hb3
 have hm23:=Hm2.out.below hb3
 have hap3:Apt (.slice (some ⟨g1,0,none⟩) 0 n) A3:=by
  intro a ha hb
  obtain ⟨A9,c9,h9,_,h8⟩:=own_shape hm3.own
  injection h9 with h9
  have:=(h8 a (h9.symm.trans ha)).1
  have hb':g1=a.block:=by simpa [Value.ownBlock] using hb
  omega
 have Hap3:=lhd hap3
 clear hap3
 have Hsuf:=lhd hsuf
 have Hm3:=lhd hm3.rd
 have Hm23:=lhd hm23.rd
 have Hown3:=lhd hown3
 have Hb3:=lhd hb3'
 clear hsuf hm3 hm23 hown3 hb3' hb3 hb2 Hown Hm2 HRS
 go_wp2_with fail
 go_loopw [4,6,16] (fun v _ i wr=>∃k:Nat,k≤n∧i=.int .i64 k∧wr.ownsRow w.heap.size 3 1 v k ((lastL (symL t) (rs.take k)).map sv)∧Below w.heap.size w wr∧Apt v A1∧Apt v A3∧Rd wr wr.heap.size 1 A1 n ((symL t).map sv)∧Rd wr wr.heap.size 1 A3 n (rs.map sv)) (fun _ _ i _=>n -(intOf i).toNat)
 case atStart=>exact ⟨0,by omega,rfl,Hown3.out,Hb3.out,Hap1.out,Hap3.out,Hm23.out,Hm3.out⟩
 case round=>
  obtain ⟨k,hk,rfl,hown,hbw,hp1,hp3,hrl,hrr⟩:=hrel
  by_cases hlt:k < n
  · obtain ⟨b,off,u,rfl,hbl,hu,hc⟩:=hrr.get hlt
    rw [List.getElem?_map] at hu
    obtain ⟨p,hp,rfl⟩:=Option.map_eq_some_iff.1 hu
    have hpn:p < n:=by have:=Hsuf.out.lt (List.mem_of_getElem? hp);rw [Hll.out] at this;exact this
    obtain ⟨q,hq⟩:∃q,(p+n - 1)% n=q:=⟨_,rfl⟩
    have hqn:q < n:=by rw [←hq];exact Nat.mod_lt _ (by omega)
    obtain ⟨b',off',u',rfl,hbl',hu',hc'⟩:=hrl.get hqn
    rw [List.getElem?_map] at hu'
    obtain ⟨x,hx,rfl⟩:=Option.map_eq_some_iff.1 hu'
    have hpx:prevL (symL t) p=x:=by
        unfold prevL
        rw [Hll.out,hq,List.getD_eq_getElem?_getD,hx]
        rfl
    have htk:lastL (symL t) (rs.take (k+1))=lastL (symL t) (rs.take k)++ [x]:=by
        rw [List.take_add_one,hp,lastL,List.map_append,←hpx]
        rfl
    unfold sv at hc hc'
    have hqi:((p:Int)+(n:Int) - 1)%(n:Int)=(q:Int):=by
        rw [←hq,Int.natCast_emod]
        congr 1
        omega
    have hqt:((p:Int)+(n:Int) - 1).tmod (n:Int)=(q:Int):=by
        rw [Int.tmod_eq_emod_of_nonneg (by omega)]
        exact hqi
    have Htk:=lhd htk
    have Hown2:=lhd hown
    have Hp1:=lhd hp1
    have Hp3:=lhd hp3
    have Hbw:=lhd hbw
    have Hrl:=lhd hrl
    have Hrr:=lhd hrr
    have Hq:=lhd hq
    clear hu hu' hx hpx htk hown hbw hp1 hp3 hrl hrr hq hp
    go_wp2_with (at_builtin;refine wpList_push _ rfl (.tmp 20) (.tmp 32) _ rfl w.heap.size 3 i0 (.int .i64 0) 1 8 Tryz.underlying22 hi0 hz0 hz1 hz2 rfl (by decide) _ k _ rfl Hown2.out rfl rfl (by simp [Value.oneCell']) (by unfold maxLen;omega) (by omega) Hbw.out.size ?_;intro v2 w2 hown2 hg2 hs2 hat2)
    have hbw2:=below_grown Hbw.out Hown2.out hg2 Hbw.out.size
    have hl1:∀a,some (⟨b',off',none⟩:Addr)=some a→a.block < _:=fun a ha=>by injection ha with ha;subst ha;exact hbl'
    have hl3:∀a,some (⟨b,off,none⟩:Addr)=some a→a.block < _:=fun a ha=>by injection ha with ha;subst ha;exact hbl
    go_roundw
    case rel=>
        refine ⟨k+1,by omega,by go_num,?_,hbw2,Hp1.out.next hat2 (fun a ha=>Nat.lt_succ_of_lt (hl1 a ha)),Hp3.out.next hat2 (fun a ha=>Nat.lt_succ_of_lt (hl3 a ha)),rd_grown Hrl.out hg2 Hp1.out,rd_grown Hrr.out hg2 Hp3.out⟩
        rw [Htk.out,List.map_append]
        exact hown2
    case measure=>simp [intOf];omega
  · obtain rfl:n=k:=by omega
    rw [List.take_of_length_le (by rw [Hsuf.out.len,Hll.out];omega)] at hown
    obtain ⟨A',c',rfl,hm'⟩:=made_of_own hown
    have Hm':=lhd hm'
    have Hbw:=lhd hbw
    clear hown hm' hbw hp1 hp3 hrl hrr
    go_wp2_with fail
    go_ret
    have hcast:∀L,Made wr w.heap.size 3 1 A' n c' L→Made wr w.heap.size 3 1 A' (m+1) c' L:=fun L h=>by
        rw [HN.out]
        exact h
    exact ⟨rs,A',c',Hsuf.out,by rw [HN.out];rfl,hcast _ Hm'.out,Hbw.out⟩
end Go.Proofs.YtipaccakmndkgaaGreatDoor
