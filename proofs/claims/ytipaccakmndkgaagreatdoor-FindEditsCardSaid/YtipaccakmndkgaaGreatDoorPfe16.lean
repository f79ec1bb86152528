/- The walk of sorted.Last: the symbols ahead of the sorted suffixes. Conditions: at most 200 bytes. The walk of the wave's New. Conditions: at most 128 symbols, below 257. -/
import Derived.Test.YtipaccakmndkgaaGreatDoorPfe15
namespace Go.Proofs.YtipaccakmndkgaaGreatDoor
open Go.RowKit
set_option linter.unusedVariables false
set_option linter.unusedSimpArgs false
def prevL (l:List Nat) (i:Nat):Nat:=l.getD ((i+l.length - 1)% l.length) 0
def lastL (l rs:List Nat):List Nat:=rs.map (prevL l)
theorem lastL_len (l rs:List Nat):(lastL l rs).length=rs.length:=by simp [lastL]
theorem prevL_lt {l:List Nat} (h:∀s∈l,s < 257) (i:Nat):prevL l i < 257:=by
 unfold prevL
 rw [List.getD_eq_getElem?_getD]
 cases e:l[(i+l.length - 1)% l.length]? with
 | none=>simp
 | some x=>simpa using h x (List.mem_of_getElem? e)
theorem lastL_lt {l rs:List Nat} (h:∀s∈l,s < 257):∀s∈lastL l rs,s < 257:=by
 intro s hs
 obtain ⟨i,_,rfl⟩:=List.mem_map.1 hs
 exact prevL_lt h i
theorem run_ints0 (n:Nat) (hn:n≤1000000) (w:World):(Instr.makeSlice 22 (.int .i64 0) (.int .i64 (n:Int))).run Tryz.prog w=.ok (.slice (some ⟨w.heap.size,0,none⟩) 0 n) (w.alloc (.cells (madeCells #[.int .i64 0] n) 3)):=by
 obtain ⟨i0,hi0,hz0,hz1,hz2⟩:=info_parts int_info
 have:=run_make (P:=Tryz.prog) w 22 3 i0 (.int .i64 0) Tryz.underlying22 hi0 hz0 .i64 .i64 0 n (by omega) (by omega) (by rw [hz2];omega) (by omega)
 rw [this,hz1]
 simp only [Value.cells,Int.toNat_natCast,Nat.mul_one]
 rfl
theorem rd_grown {w w':World} {sz n:Nat} {A:Option Addr} {xs:List Value} {row:Option Nat} (h:Rd w w.heap.size sz A n xs) (hg:w.grownBy w' row) (hA:∀a,A=some a→row≠some a.block):Rd w' w'.heap.size sz A n xs:=by
 refine ⟨h.1,fun hn=>?_⟩
 obtain ⟨b,off,rfl,hb,hc⟩:=h.2 hn
 refine ⟨b,off,rfl,Nat.lt_of_lt_of_le hb hg.size,fun j u hu=>?_⟩
 rw [World.cell?_of_block (w:=w) (hg.block b hb (fun e=>hA _ rfl e.symm))]
 exact hc j u hu
def Apt (v:Value) (A:Option Addr):Prop:=∀a,A=some a→v.ownBlock≠some a.block
theorem Apt.next {v v':Value} {A:Option Addr} {g:Nat} (h:Apt v A) (ho:v'.ownBlock=v.ownBlock∨v'.ownBlock=some g) (hA:∀a,A=some a→a.block < g):Apt v' A:=by
 intro a ha hb
 rcases ho with e | e
 · exact h a ha (e.symm.trans hb)
 · rw [e] at hb
   injection hb with hb
   have:=hA a ha
   omega
set_option maxRecDepth 100000 in
set_option maxHeartbeats 2000000 in
theorem SortedLast_any (A:Option Addr) (m c B:Nat) (t:List UInt8) (w:World) (hr:Rd w B 1 A m (t.map bv)) (hB:B≤w.heap.size) (hm:m≤200):
 Calls Tryz.prog 113 #[.slice A m c] w fun e w'=>∃rs A' c',IsSuf (symL t) rs∧e=.returned (.slice A' (m+1) c')∧Made w' w.heap.size 3 1 A' (m+1) c' ((lastL (symL t) rs).map sv)∧Below w.heap.size w w':=by
 obtain ⟨i0,hi0,hz0,hz1,hz2⟩:=info_parts int_info
 have htl:t.length=m:=by simpa using hr.1
 have Hr:=Lib.hid hr
 have Htl:=Lib.hid htl
 clear hr htl
 go_enter Tryz.func113,Tryz.ntmps113
 go_wp2_with fail
 obtain ⟨n,hn⟩:∃n,m+1=n:=⟨_,rfl⟩
 have hsa:=SymAll_any w.heap.size 0 A m c w.heap.size t (w.alloc (.cells #[.slice A m c] 23)) (Bk.new _ _ _) ((Hr.out.mono hB).alloc (Nat.le_refl _) _) (by simp) (by omega)
 have hrs:=fun W (hb:Below w.heap.size w W)=>SortedRows_any A m c w.heap.size t W ((Hr.out.mono hB).below hb) hb.size hm
 simp only [hn] at hsa hrs
 have hn2:n≤201:=by omega
 have hn1:1≤n:=by omega
 have hll:(symL t).length=n:=by rw [symL_len,Htl.out,hn]
 have HN:=Lib.hid hn
 have Hll:=Lib.hid hll
 have HRS:=Lib.hid hrs
 clear hn hll hrs
 refine hsa.mono ?_
 clear hsa
 rintro e w1 ⟨A1,c1,rfl,hm1,hb1⟩
 have hb1':=((Below.refl w.heap.size w).alloc (Nat.le_refl _) _).trans (hb1.mono (by simp))
 have kz:=run_ints0 n (by omega)
 have Hm1:=Lib.hid hm1
 have Hb1:=Lib.hid hb1'
 clear hm1 hb1 hb1'
 go_wp2_with fail
 clear kz
 have hb2:=Hb1.out.alloc Hb1.out.size (.cells (madeCells #[.int .i64 0] n) 3)
 have hm2:=Hm1.out.below ((Below.refl _ _).alloc (Nat.le_refl _) (.cells (madeCells #[.int .i64 0] n) 3))
 have hown:(w1.alloc (.cells (madeCells #[.int .i64 0] n) 3)).ownsRow w.heap.size 3 1 (.slice (some ⟨w1.heap.size,0,none⟩) 0 n) 0 []:=World.ownsRow_made _ _ _ Hb1.out.size (by unfold maxLen;omega) (by simp [madeCells])
 obtain ⟨g1,hg1⟩:∃g,w1.heap.size=g:=⟨_,rfl⟩
 have hgs:g1 < (w1.alloc (.cells (madeCells #[.int .i64 0] n) 3)).heap.size:=by rw [←hg1];simp
 have hap1:Apt (.slice (some ⟨g1,0,none⟩) 0 n) A1:=by
  intro a ha hb
  obtain ⟨A9,c9,h9,_,h8⟩:=own_shape Hm1.out.own
  injection h9 with h9
  have:=(h8 a (h9.symm.trans ha)).2
  have hb':g1=a.block:=by simpa [Value.ownBlock] using hb
  omega
 have Hap1:=Lib.hid hap1
 clear hap1
 rw [hg1] at hown⊢
 generalize w1.alloc (.cells (madeCells #[.int .i64 0] n) 3)=W2 at hb2 hm2 hown hgs⊢
 have Hown:=Lib.hid hown
 have Hm2:=Lib.hid hm2
 clear hown hm2 Hm1 Hb1 hg1
 refine (HRS.out W2 hb2).mono ?_
 rintro e w3 ⟨rs,A3,c3,hsuf,rfl,hm3,hb3⟩
 have hb3':=hb2.trans (hb3.mono hb2.size)
 have hown3:=own_below Hown.out hb3
 have hm23:=Hm2.out.below hb3
 have hap3:Apt (.slice (some ⟨g1,0,none⟩) 0 n) A3:=by
  intro a ha hb
  obtain ⟨A9,c9,h9,_,h8⟩:=own_shape hm3.own
  injection h9 with h9
  have:=(h8 a (h9.symm.trans ha)).1
  have hb':g1=a.block:=by simpa [Value.ownBlock] using hb
  omega
 have Hap3:=Lib.hid hap3
 clear hap3
 have Hsuf:=Lib.hid hsuf
 have Hm3:=Lib.hid hm3.rd
 have Hm23:=Lib.hid hm23.rd
 have Hown3:=Lib.hid hown3
 have Hb3:=Lib.hid hb3'
 clear hsuf hm3 hm23 hown3 hb3' hb3 hb2 Hown Hm2 HRS
 go_wp2_with fail
 go_loopw [4,6,16] (fun v _ i wr=>∃k:Nat,k≤n∧i=.int .i64 k∧wr.ownsRow w.heap.size 3 1 v k ((lastL (symL t) (rs.take k)).map sv)∧Below w.heap.size w wr∧Apt v A1∧Apt v A3∧Rd wr wr.heap.size 1 A1 n ((symL t).map sv)∧Rd wr wr.heap.size 1 A3 n (rs.map sv)) (fun _ _ i _=>n -(intOf i).toNat)
 case atStart=>exact ⟨0,by omega,rfl,Hown3.out,Hb3.out,Hap1.out,Hap3.out,Hm23.out,Hm3.out⟩
 case round=>
  obtain ⟨k,hk,rfl,hown,hbw,hp1,hp3,hrl,hrr⟩:=hrel
  by_cases hlt:k < n
  · obtain ⟨b,off,u,rfl,hbl,hu,hc⟩:=hrr.get hlt
    rw [List.getElem?_map] at hu
    obtain ⟨p,hp,rfl⟩:=Option.map_eq_some_iff.1 hu
    have hpn:p < n:=by have:=Hsuf.out.lt (List.mem_of_getElem? hp);rw [Hll.out] at this;exact this
    obtain ⟨q,hq⟩:∃q,(p+n - 1)% n=q:=⟨_,rfl⟩
    have hqn:q < n:=by rw [←hq];exact Nat.mod_lt _ (by omega)
    obtain ⟨b',off',u',rfl,hbl',hu',hc'⟩:=hrl.get hqn
    rw [List.getElem?_map] at hu'
    obtain ⟨x,hx,rfl⟩:=Option.map_eq_some_iff.1 hu'
    have hpx:prevL (symL t) p=x:=by
        unfold prevL
        rw [Hll.out,hq,List.getD_eq_getElem?_getD,hx]
        rfl
    have htk:lastL (symL t) (rs.take (k+1))=lastL (symL t) (rs.take k)++ [x]:=by
        rw [List.take_add_one,hp,lastL,List.map_append,←hpx]
        rfl
    unfold sv at hc hc'
    have hqi:((p:Int)+(n:Int) - 1)%(n:Int)=(q:Int):=by
        rw [←hq,Int.natCast_emod]
        congr 1
        omega
    have hqt:((p:Int)+(n:Int) - 1).tmod (n:Int)=(q:Int):=by
        rw [Int.tmod_eq_emod_of_nonneg (by omega)]
        exact hqi
    have Htk:=Lib.hid htk
    have Hown2:=Lib.hid hown
    have Hp1:=Lib.hid hp1
    have Hp3:=Lib.hid hp3
    have Hbw:=Lib.hid hbw
    have Hrl:=Lib.hid hrl
    have Hrr:=Lib.hid hrr
    have Hq:=Lib.hid hq
    clear hu hu' hx hpx htk hown hbw hp1 hp3 hrl hrr hq hp
    go_wp2_with (at_builtin;refine wpList_push _ rfl (.tmp 20) (.tmp 32) _ rfl w.heap.size 3 i0 (.int .i64 0) 1 8 Tryz.underlying22 hi0 hz0 hz1 hz2 rfl (by decide) _ k _ rfl Hown2.out rfl rfl (by simp [Value.oneCell']) (by unfold maxLen;omega) (by omega) Hbw.out.size ?_;intro v2 w2 hown2 hg2 hs2 hat2)
    have hbw2:=below_grown Hbw.out Hown2.out hg2 Hbw.out.size
    have hl1:∀a,some (⟨b',off',none⟩:Addr)=some a→a.block < _:=fun a ha=>by injection ha with ha;subst ha;exact hbl'
    have hl3:∀a,some (⟨b,off,none⟩:Addr)=some a→a.block < _:=fun a ha=>by injection ha with ha;subst ha;exact hbl
    go_roundw
    case rel=>
        refine ⟨k+1,by omega,by go_num,?_,hbw2,Hp1.out.next hat2 (fun a ha=>Nat.lt_succ_of_lt (hl1 a ha)),Hp3.out.next hat2 (fun a ha=>Nat.lt_succ_of_lt (hl3 a ha)),rd_grown Hrl.out hg2 Hp1.out,rd_grown Hrr.out hg2 Hp3.out⟩
        rw [Htk.out,List.map_append]
        exact hown2
    case measure=>simp [intOf];omega
  · obtain rfl:n=k:=by omega
    rw [List.take_of_length_le (by rw [Hsuf.out.len,Hll.out];omega)] at hown
    obtain ⟨A',c',rfl,hm'⟩:=made_of_own hown
    have Hm':=Lib.hid hm'
    have Hbw:=Lib.hid hbw
    clear hown hm' hbw hp1 hp3 hrl hrr
    go_wp2_with fail
    go_ret
    have hcast:∀L,Made wr w.heap.size 3 1 A' n c' L→Made wr w.heap.size 3 1 A' (m+1) c' L:=fun L h=>by
        rw [HN.out]
        exact h
    exact ⟨rs,A',c',Hsuf.out,by rw [HN.out];rfl,hcast _ Hm'.out,Hbw.out⟩
end Go.Proofs.YtipaccakmndkgaaGreatDoor
namespace Go.Proofs.YtipaccakmndkgaaGreatDoor
open Go.RowKit
set_option linter.unusedVariables false
set_option linter.unusedSimpArgs false
theorem bools_info:(Tryz.prog.info? 209).map (fun i=>(i.zero,i.size,i.bytes))=some (some (.slice none 0 0),1,24):=by kernel_rfl
theorem shelf_info:(Tryz.prog.info? 177).map (fun i=>(i.zero,i.size,i.bytes))=some (some (.agg #[.pointer none,.int .i64 0,.int .i64 0]),3,24):=by kernel_rfl
theorem run_bits (n:Nat) (hn:n≤1000000) (w:World):(Instr.makeSlice 241 (.int .i64 (n:Int)) (.int .i64 (n:Int))).run Tryz.prog w=.ok (.slice (some ⟨w.heap.size,0,none⟩) n n) (w.alloc (.cells (rowC (fun _=>.slice none 0 0) n) 209)):=by
 obtain ⟨i0,hi0,hz0,hz1,hz2⟩:=info_parts bools_info
 have:=run_make (P:=Tryz.prog) w 241 209 i0 (.slice none 0 0) Tryz.underlying241 hi0 hz0 .i64 .i64 n n (by omega) (Int.le_refl _) (by rw [hz2];omega) (by omega)
 rw [this,hz1,rowC_const]
 have e:madeCells #[.slice none 0 0] n=Array.replicate n (.slice none 0 0):=by
  apply Array.ext'
  rw [toList_madeCells_one]
  simp
 simp only [Value.cells,Int.toNat_natCast,Nat.mul_one]
 rw [e]
set_option maxRecDepth 100000 in
set_option maxHeartbeats 4000000 in
theorem WaveNew_any (A:Option Addr) (m0 c B:Nat) (L:List Nat) (w:World) (hr:Rd w B 1 A m0 (L.map sv)) (hB:B≤w.heap.size) (hm:m0≤128) (hL:∀s∈L,s < 257):
 Calls Tryz.prog 180 #[.slice A m0 c] w fun e w'=>∃gv,e=.returned (.tuple #[.pointer (some ⟨gv,0,none⟩),.int .i64 0])∧w.heap.size≤gv∧WaveAt w' w.heap.size gv L∧Below w.heap.size w w':=by
 have hll:L.length=m0:=by simpa using hr.1
 have Hr:=Lib.hid hr
 have HL:=Lib.hid hL
 have Hll:=Lib.hid hll
 have HB:=Lib.hid hB
 obtain ⟨gv,hgv⟩:∃gv,w.heap.size=gv:=⟨_,rfl⟩
 obtain ⟨W,hW⟩:∃W,w.alloc (.cells #[.slice none 0 0,.slice none 0 0,.slice none 0 0,.slice none 0 0,.slice none 0 0,.slice none 0 0,.slice none 0 0,.slice none 0 0,.slice none 0 0,.int .i64 (m0:Int),.int .i64 0] 174)=W:=⟨_,rfl⟩
 have hbw:Bk W gv 174 (wcells (fun _=>.slice none 0 0) (m0:Int) 0):=by
  rw [←hW,←hgv]
  have h:=Bk.new w 174 #[.slice none 0 0,.slice none 0 0,.slice none 0 0,.slice none 0 0,.slice none 0 0,.slice none 0 0,.slice none 0 0,.slice none 0 0,.slice none 0 0,.int .i64 (m0:Int),.int .i64 0]
  unfold wcells
  exact h
 have hbW:Below w.heap.size w W:=by
  rw [←hW]
  exact (Below.refl _ _).alloc (Nat.le_refl _) _
 have Hbw:=Lib.hid hbw
 have HbW:=Lib.hid hbW
 have HW:=Lib.hid hW
 have Hgv:=Lib.hid hgv
 clear hr hL hll hbw hbW hW hB
 go_enter Tryz.func180,Tryz.ntmps180
 go_wp2_with fail
 rw [HW.out]
 try rw [Hgv.out]
 go_loopw [20] (fun i wr=>∃k:Nat,k≤m0∧i=.int .i64 k∧Below W.heap.size W wr) (fun i _=>m0 -(intOf i).toNat)
 case atStart=>exact ⟨0,by omega,rfl,Below.refl _ _⟩
 case round=>
  obtain ⟨k,hk,rfl,hb⟩:=hrel
  have hsz:=hb.size
  have hsW:=HbW.out.size
  by_cases hlt:k < m0
  · have hkl:k < L.length:=by rw [Hll.out];exact hlt
    obtain ⟨s,hs⟩:∃s,L[k]?=some s:=⟨L[k],List.getElem?_eq_getElem hkl⟩
    obtain ⟨b,off,u,rfl,hbl,hu,hc⟩:=(((Hr.out.mono HB.out).below HbW.out).below (hb.mono hsW)).get hlt
    rw [List.getElem?_map,hs] at hu
    simp at hu
    subst hu
    have hs257:s < 257:=HL.out s (List.mem_of_getElem? hs)
    unfold sv at hc
    clear hs
    go_wp2_with fail
    refine (SymIs_any s _ hs257).mono ?_
    rintro e w1 ⟨rfl,hb1⟩
    have hb2:=hb.trans (hb1.mono hsz)
    go_wp2_with fail
    go_roundw
    case rel=>exact ⟨k+1,by omega,by go_num,hb2⟩
    case measure=>simp [intOf];omega
  · have hkm:k=m0:=by omega
    subst hkm
    have HB1:=Lib.hid hb
    clear hb
    go_wp2_with fail
    go_loopw [28] (fun i wr=>∃lv:Nat,lv≤9∧i=.int .i64 lv∧Below w.heap.size w wr∧W.heap.size≤wr.heap.size∧∃S,Bk wr gv 174 (wcells S (k:Int) 0)∧(∀j,j < lv→ShelfRow wr w.heap.size (S j) L j (2 ^ j))∧(∀j,lv≤j→S j=.slice none 0 0)) (fun i _=>9 -(intOf i).toNat)
    case atStart=>exact ⟨0,by omega,rfl,HbW.out.trans (HB1.out.mono hsW),hsz,_,Hbw.out.below HB1.out Hbw.out.lt,fun j hj=>absurd hj (by omega),fun j _=>rfl⟩
    case round=>
        obtain ⟨lv,hlv,rfl,hbw,hWr,S,hbS,hrows,hnils⟩:=hrel
        by_cases hl9:lv < 9
        · obtain ⟨Wv,hWv⟩:∃Wv,Wv=wr:=⟨_,rfl⟩
          subst hWv
          obtain ⟨m,hm⟩:∃m,2 ^ lv=m:=⟨_,rfl⟩
          have hm9:m≤512:=by
           rw [←hm]
           exact Nat.le_trans (Nat.pow_le_pow_right (by decide) (by omega:lv≤9)) (by decide)
          have hmk:=run_bits m (by omega)
          have hm1:(2:Int)^ lv=(m:Int):=by
           rw [←hm]
           push_cast
           rfl
          obtain ⟨gB,hgB⟩:∃gB,Wv.heap.size=gB:=⟨_,rfl⟩
          obtain ⟨Wl,hWl⟩:∃Wl,Wv.alloc (.cells (rowC (fun _=>.slice none 0 0) m) 209)=Wl:=⟨_,rfl⟩
          have hbl0:Bk Wl gB 209 (rowC (fun _=>.slice none 0 0) m):=by
           rw [←hWl,←hgB]
           exact Bk.new _ _ _
          have hbits0:=Bits.start Wl Wv.heap.size gB m hbl0
          have hbWl:Below Wv.heap.size Wv Wl:=by
           rw [←hWl]
           exact (Below.refl _ _).alloc (Nat.le_refl _) _
          have Hbits0:=Lib.hid hbits0
          have HbWl:=Lib.hid hbWl
          have HbS:=Lib.hid hbS
          have Hrows:=Lib.hid hrows
          have Hnils:=Lib.hid hnils
          have Hbw2:=Lib.hid hbw
          have HWl:=Lib.hid hWl
          have HgB:=Lib.hid hgB
          have Hm:=Lib.hid hm
          clear hbits0 hbWl hbS hrows hnils hbw hWl hbl0 hm
          go_wp2_with fail
          rw [HWl.out]
          obtain ⟨i0,hi0,hz0,hz1,hz2⟩:=info_parts bool_info
          have hd9:decide ((lv:Int) < 9)=true:=decide_eq_true (by omega)
          rw [hd9]
          go_loopw [37] (fun i wr2=>∃(j:Nat) (T:Nat→Value),j≤k∧i=.int .i64 j∧Bits wr2 Wv.heap.size gB m T (fun p=>bitsOf (L.take j) lv p)∧Below Wv.heap.size Wv wr2∧Wl.heap.size≤wr2.heap.size) (fun i _=>k -(intOf i).toNat)
          case atStart=>exact ⟨0,_,by omega,rfl,by rw [List.take_zero];exact Hbits0.out,HbWl.out,Nat.le_refl _⟩
          case round=>
           obtain ⟨j,T,hj,rfl,hbits,hb2,hs2⟩:=hrel
           have hsz2:=hb2.size
           by_cases hjk:j < k
           · have hjl:j < L.length:=by rw [Hll.out];exact hjk
             obtain ⟨s,hs⟩:∃s,L[j]?=some s:=⟨L[j],List.getElem?_eq_getElem hjl⟩
             have hb3:Below w.heap.size w wr:=Hbw2.out.trans (hb2.mono Hbw2.out.size)
             obtain ⟨b0,off,u,rfl,hbl,hu,hc⟩:=((Hr.out.mono HB.out).below hb3).get hjk
             rw [List.getElem?_map,hs] at hu
             simp at hu
             subst hu
             have hs257:s < 257:=HL.out s (List.mem_of_getElem? hs)
             have htk:L.take (j+1)=L.take j++ [s]:=by rw [List.take_add_one,hs];rfl
             have htl:(L.take j).length≤128:=by rw [List.length_take];omega
             unfold sv at hc
             have Hbits:=Lib.hid hbits
             have HTK:=Lib.hid htk
             have Hb2:=Lib.hid hb2
             have hbW2:=hb3
             clear hs hbits htk hb2 hb3
             go_wp2_with fail
             refine (SymPath_any s lv _ hs257 (by omega)).mono ?_
             rintro e w1 ⟨rfl,hb4⟩
             obtain ⟨p,hp⟩:∃p,pathN s lv=p:=⟨_,rfl⟩
             rw [hp]
             have hpm:p < m:=by rw [←Hm.out,←hp];exact path_lt s lv hs257 (by omega)
             have hpI:(p:Int) < (m:Int):=by omega
             have hbits1:=Hbits.out.below hb4
             obtain ⟨xs,hxs⟩:∃xs,bitsOf (L.take j) lv p=xs:=⟨_,rfl⟩
             obtain ⟨q,hq⟩:∃q,xs.length=q:=⟨_,rfl⟩
             have hq128:q≤128:=by
              rw [←hq,←hxs,bits_len]
              exact Nat.le_trans List.countP_le_length htl
             have hown:=hbits1.own p hpm
             simp only [hxs,hq] at hown
             obtain ⟨A9,c9,hTp,hqc,_⟩:=own_shape hown
             have hTlt:=hown.lt
             rw [hTp] at hown hTlt
             have ownB:Wv.heap.size≤w1.heap.size:=Nat.le_trans hsz2 hb4.size
             have ow16:(Value.slice A9 q c9).ownBlock≠some gB:=fun e=>own_bk_ne hown hbits1.blk (by decide) e.symm
             have hbk1:=hbits1.blk
             have hcp:w1.cell? ⟨gB,p,none⟩=some (.slice A9 q c9):=by
              rw [←hTp]
              exact (hbk1.cell p).trans (rowC_get _ _ _ hpm)
             have hgBlt:=hbk1.lt
             obtain ⟨b,hbb⟩:∃b,bitB s lv=b:=⟨_,rfl⟩
             have Hbb:=Lib.hid hbb
             have Hown:=Lib.hid hown
             have Hbk1:=Lib.hid hbk1
             have Hbits1:=Lib.hid hbits1
             have Hp:=Lib.hid hp
             have Hxs:=Lib.hid hxs
             have Hq:=Lib.hid hq
             have HTp:=Lib.hid hTp
             have Hcp:=Lib.hid hcp
             have Hb4:=Lib.hid hb4
             clear hbb hown hbk1 hbits1 hp hxs hq hTp hcp hb4
             go_wp2_with fail
             refine wp_region_any (by kernel_rfl) ?_
             refine wpAny_keep_tail 12 [44,45,46,47,48,49,50,51,52,53,54,55] (fun b=>(Value.slice A9 q c9).ownBlock=some b) 10 [10] (fun w2=>w2.ownsRow Wv.heap.size 4 1 (.slice A9 q c9) q (xs.map Value.bool)) (fun v w2=>w2.ownsRow Wv.heap.size 4 1 v (q+1) (xs.map Value.bool++ [.bool b])∧(v.ownBlock=(Value.slice A9 q c9).ownBlock∨∃g,v.ownBlock=some g∧w1.heap.size≤g)) [is (.slice (some ⟨gB,0,none⟩) m m),is (.int .i64 (p:Int)),is (.slice (some ⟨gB,0,none⟩) m m),is (.int .i64 (p:Int)),is (.pointer (some ⟨gB,p,none⟩)),is (.slice A9 q c9),is (.int .i64 (s:Int)),is (.int .i64 (lv:Int)),is (.bool b),newBk (fun b=>(Value.slice A9 q c9).ownBlock=some b) 4 #[.bool b] fun g=>.slice (some ⟨g,0,none⟩) 1 1,anyV,is (.pointer (some ⟨gB,p,none⟩))] _ _ rfl (by decide) (by kernel_rfl) (by kernel_rfl) (by kernel_rfl) (Hown.out) (fun w2 w3 h _ hg=>own_below h hg) (fun _ _ _ ⟨h1,h2⟩ k=>⟨own_below h1 k,h2⟩) (by repeat' (first | exact stbk_is _ _ | exact stbk_any _ | exact stbk_newBk _ _ _ _ |(refine List.forall_mem_cons.2 ⟨?_,?_⟩)|(intro p hp;cases hp))) ?_ ?_
             · refine steps_of_n ?_
               refine steps_cons (step_on3 rfl rfl fun ev _ _ _ _ _ hold _ _ _ _ hK=>?_) ?_
               · have e8:ev (.tmp 8)=.slice (some ⟨gB,0,none⟩) m m:=hold 8 (by kernel_rfl)
                 go_simp
                 exact hK _ _ (kstep_grow (Below.refl _ _)) rfl
               refine steps_cons (step_on3 rfl rfl fun ev _ _ _ _ _ hold _ _ _ _ hK=>?_) ?_
               · have e11:ev (.tmp 11)=.int .i64 (p:Int):=hold 11 (by kernel_rfl)
                 go_simp
                 exact hK _ _ (kstep_grow (Below.refl _ _)) rfl
               refine steps_cons (step_on3 rfl rfl fun ev _ _ _ _ _ hold _ _ _ _ hK=>?_) ?_
               · have e8:ev (.tmp 8)=.slice (some ⟨gB,0,none⟩) m m:=hold 8 (by kernel_rfl)
                 go_simp
                 exact hK _ _ (kstep_grow (Below.refl _ _)) rfl
               refine steps_cons (step_on3 rfl rfl fun ev _ _ _ _ _ hold _ _ _ _ hK=>?_) ?_
               · have e11:ev (.tmp 11)=.int .i64 (p:Int):=hold 11 (by kernel_rfl)
                 go_simp
                 exact hK _ _ (kstep_grow (Below.refl _ _)) rfl
               refine steps_cons (step_on3 rfl rfl fun _ _ _ _ _ _ _ hval _ _ _ hK=>?_) ?_
               · have e46:_=_:=hval 2 46 (by kernel_rfl) rfl
                 have e47:_=_:=hval 3 47 (by kernel_rfl) rfl
                 go_simp
                 exact hK _ _ (kstep_grow (Below.refl _ _)) rfl
               refine steps_cons (step_on3 rfl rfl fun _ w5 hS _ _ _ _ hval _ _ _ hK=>?_) ?_
               · replace hS:Keep (fun b=>(Value.slice A9 q c9).ownBlock=some b) w1 w5:=⟨hS.os,hS.tape,hS.output,hS.size,hS.block⟩
                 have e48:_=_:=hval 4 48 (by kernel_rfl) rfl
                 have c49:w5.cell? ⟨gB,p,none⟩=some (.slice A9 q c9):=(hS.cell (p:=⟨gB,p,none⟩) hgBlt ow16).trans Hcp.out
                 go_simp
                 exact hK _ _ (kstep_grow (Below.refl _ _)) rfl
               refine steps_cons (step_on3 rfl rfl fun ev _ _ _ _ _ hold _ _ _ _ hK=>?_) ?_
               · have e10:ev (.tmp 10)=.int .i64 (s:Int):=hold 10 (by kernel_rfl)
                 go_simp
                 exact hK _ _ (kstep_grow (Below.refl _ _)) rfl
               refine steps_cons (step_on3 rfl rfl fun ev _ _ _ _ _ hold _ _ _ _ hK=>?_) ?_
               · have e7:ev (.tmp 7)=.int .i64 (lv:Int):=hold 7 (by kernel_rfl)
                 go_simp
                 exact hK _ _ (kstep_grow (Below.refl _ _)) rfl
               refine steps_cons (step_on3 rfl rfl fun _ w5 _ _ _ _ _ hval _ _ _ hK=>?_) ?_
               · have e50:_=_:=hval 6 50 (by kernel_rfl) rfl
                 have e51:_=_:=hval 7 51 (by kernel_rfl) rfl
                 go_simp
                 refine (SymBit_any s lv w5 hs257 hl9).mono ?_
                 rintro e w8 ⟨rfl,hb8⟩
                 rw [Hbb.out]
                 exact hK _ _ (kstep_grow hb8) rfl
               refine steps_cons (step_on3 rfl rfl fun _ w5 hS _ _ _ _ hval _ _ _ hK=>?_) ?_
               · replace hS:Keep (fun b=>(Value.slice A9 q c9).ownBlock=some b) w1 w5:=⟨hS.os,hS.tape,hS.output,hS.size,hS.block⟩
                 have e52:_=_:=hval 8 52 (by kernel_rfl) rfl
                 go_simp
                 exact hK _ _ (kstep_grow ((Below.refl _ _).alloc (Nat.le_refl _) _)) ⟨_,rfl,Bk.new _ _ _,fun h=>by have:=(hTlt _ h).2;have:=hS.size;omega⟩
               refine steps_cons (step_on3 rfl rfl fun ev w5 hS hU _ _ _ hval _ _ ha hK=>?_) ?_
               · replace hS:Keep (fun b=>(Value.slice A9 q c9).ownBlock=some b) w1 w5:=⟨hS.os,hS.tape,hS.output,hS.size,hS.block⟩
                 have hpre:=hU rfl
                 have e49:_=_:=hval 5 49 (by kernel_rfl) rfl
                 have p53:(newBk (fun b=>(Value.slice A9 q c9).ownBlock=some b) 4 #[.bool b] fun g=>.slice (some ⟨g,0,none⟩) 1 1) (ev (.tmp 53)) w5:=hval 9 53 (by kernel_rfl) rfl
                 obtain ⟨g53,e53,hb53,hn53⟩:=p53
                 subst ha
                 have hw5:Wv.heap.size≤w5.heap.size:=Nat.le_trans ownB hS.size
                 have hws5:=hS.size
                 refine wp_append_rd w5 (.tmp 49) (.tmp 53) _ rfl Wv.heap.size 4 i0 (.bool false) 1 1 Tryz.underlying209 hi0 hz0 hz1 hz2 rfl (by decide) (.slice A9 q c9) q (xs.map Value.bool) e49 hpre w5.heap.size (some ⟨g53,0,none⟩) 1 1 [.bool b] e53 (rd_one hb53) (by simp [Value.oneCell']) (by unfold maxLen;omega) (by omega) hw5 ?_
                 intro v6 w6 hown6 hg6 hat6
                 refine hK _ _ (kstep_keep ⟨hg6.os,hg6.tape,hg6.output,hg6.size,fun k hk hn=>hg6.block k hk (fun e=>hn e.symm)⟩) ⟨hown6,?_⟩
                 rcases hat6 with h6 | h6
                 · exact .inl h6
                 · exact .inr ⟨_,h6,hws5⟩
               refine steps_cons (step_on3 rfl rfl fun _ _ _ _ _ _ _ hval _ _ _ hK=>?_) ?_
               · have e44:_=_:=hval 0 44 (by kernel_rfl) rfl
                 have e45:_=_:=hval 1 45 (by kernel_rfl) rfl
                 go_simp
                 exact hK _ _ (kstep_grow (Below.refl _ _)) rfl
               exact steps_nil
             · intro ev w6 f hS hval
               replace hS:Keep (fun b=>(Value.slice A9 q c9).ownBlock=some b) w1 w6:=⟨hS.os,hS.tape,hS.output,hS.size,hS.block⟩
               have p54:(fun v w2=>w2.ownsRow Wv.heap.size 4 1 v (q+1) (xs.map Value.bool++ [.bool b])∧(v.ownBlock=(Value.slice A9 q c9).ownBlock∨∃g,v.ownBlock=some g∧w1.heap.size≤g)) (ev (.tmp 54)) w6:=hval 10 54 (by decide) rfl
               have e55:ev (.tmp 55)=.pointer (some ⟨gB,p,none⟩):=hval 11 55 (by decide) rfl
               simp only [putsOf,List.foldl_cons,List.foldl_nil,Act.put,List.setIfInBounds_toArray,List.set_cons_zero,List.set_cons_succ]
               rw [e55]
               clear hval
               obtain ⟨hown6,hat6⟩:=p54
               have hpush:=Bits.push (v:=ev (.tmp 54)) (b:=b) Hbits1.out hpm (by rw [HTp.out];exact hS) (by simp only [Hxs.out,Hq.out];exact hown6) (by rw [HTp.out];exact hat6)
               obtain ⟨A8,c8,e54,_,_⟩:=own_shape hown6
               rw [e54] at hpush⊢
               have hb6:=hS.bk Hbk1.out ow16
               have c55:w6.cell? ⟨gB,p,none⟩=some (.slice A9 q c9):=(hS.cell (p:=⟨gB,p,none⟩) hgBlt ow16).trans Hcp.out
               have f55:=hb6.frozen p
               have Hpush:=Lib.hid hpush
               have hgB6:=hb6.lt
               clear hpush hb6 hown6 hat6
               change wpAny Tryz.prog Region.Mode.any _ _ (1+f) (firstN 12 13) _ w6
               rw [Nat.add_comm 1 f]
               refine wpAny_one (f:=f) (i:=12) (by kernel_rfl) ?_
               refine wpOp_run rfl rfl ?_
               generalize hK:wpAny Tryz.prog _ _ _ f _=K5
               go_simp
               subst hK
               refine wpAny_all (by kernel_rfl) ?_
               have hb7:Below Wv.heap.size Wv (w6.setCell ⟨gB,p,none⟩ (.slice A8 (q+1) c8)):=
                  ((Hb2.out.trans (Hb4.out.mono hsz2)).trans (hS.to_below ownB (fun b hb h=>by have:=(hTlt _ h).1;omega))).setCell (by rw [HgB.out];exact Nat.le_refl _) _
               have hs7:Wl.heap.size≤(w6.setCell ⟨gB,p,none⟩ (.slice A8 (q+1) c8)).heap.size:=by
                  have h1:=Hb4.out.size
                  have h2:=hS.size
                  have h3:(w6.setCell ⟨gB,p,none⟩ (.slice A8 (q+1) c8)).heap.size=w6.heap.size:=by simp [World.setCell]
                  omega
               have hcong:=Hpush.out.congr (R':=fun p'=>bitsOf (L.take (j+1)) lv p') (fun p' hp'=>by
                  rw [HTK.out,bits_snoc,Hp.out,Hbb.out]
                  by_cases e:p'=p
                  · subst e
                    simp
                  · simp [e])
               have Hcong:=Lib.hid hcong
               clear hcong Hpush
               go_wp2_with fail
               go_roundw
               case rel=>exact ⟨j+1,_,by omega,by go_num,Hcong.out,hb7,hs7⟩
               case measure=>simp [intOf];omega
           · have hjk2:j=k:=by omega
             subst hjk2
             have hLk:L.take j=L:=List.take_of_length_le (by rw [Hll.out];omega)
             rw [hLk] at hbits
             have Hbits:=Lib.hid hbits
             obtain ⟨W3,hW3⟩:∃W3,W3=wr:=⟨_,rfl⟩
             subst hW3
             have hwW3:w.heap.size≤W3.heap.size:=Nat.le_trans Hbw2.out.size hb2.size
             have Hb2:=Lib.hid hb2
             clear hbits hb2
             obtain ⟨i2,gi2,gz0,gz1,gz2⟩:=info_parts shelf_info
             go_wp2_with fail
             go_loopw [59] (fun i wr4=>∃(p:Nat) (v:Value),p≤m∧i=.int .i64 p∧Bits wr4 Wv.heap.size gB m T (fun p=>bitsOf L lv p)∧Keep (fun b=>b=gv) Wv wr4∧W3.heap.size≤wr4.heap.size∧Bk wr4 gv 174 (wcells (fun i=>if i=lv then v else S i) (j:Int) 0)∧ShelfRow wr4 W3.heap.size v L lv p) (fun i _=>m -(intOf i).toNat)
             case atStart=>
              refine ⟨0,.slice none 0 0,by omega,rfl,Hbits.out,(Keep.of_below Hb2.out),Nat.le_refl _,?_,(fun _=>0),World.ownsRow_nil _ _ _ _,fun p hp=>absurd hp (by omega)⟩
              have hSe:(fun i=>if i=lv then Value.slice none 0 0 else S i)=S:=by
                  funext i
                  by_cases e:i=lv
                  · rw [if_pos e,e,Hnils.out lv (Nat.le_refl _)]
                  · rw [if_neg e]
              rw [hSe]
              exact HbS.out.below Hb2.out HbS.out.lt
             case round=>
              obtain ⟨p,v,hp,rfl,hbits4,hk4,hs4,hb4,hrow4⟩:=hrel
              by_cases hpm:p < m
              · have hown:=hbits4.own p hpm
                obtain ⟨xs,hxs⟩:∃xs,bitsOf L lv p=xs:=⟨_,rfl⟩
                obtain ⟨q,hq⟩:∃q,xs.length=q:=⟨_,rfl⟩
                have hq128:q≤128:=by
                    rw [←hq,←hxs,bits_len]
                    exact Nat.le_trans List.countP_le_length (by rw [Hll.out];exact hm)
                simp only [hxs,hq] at hown
                obtain ⟨A9,c9,hTp,hqc,_⟩:=own_shape hown
                rw [hTp] at hown
                have hcp:wr.cell? ⟨gB,p,none⟩=some (.slice A9 q c9):=by
                    rw [←hTp]
                    exact (hbits4.blk.cell p).trans (rowC_get _ _ _ hpm)
                obtain ⟨G,hownS,htr⟩:=hrow4
                obtain ⟨As,cs,hv,hpc,_⟩:=own_shape hownS
                subst hv
                have hSlt:=hownS.lt
                have hgvF:(Value.slice As p cs).ownBlock≠some gv:=fun e=>own_bk_ne hownS hb4 (by decide) e.symm
                have hdis:∀t,177≠t→∀b cs',Bk wr b t cs'→(Value.slice As p cs).ownBlock≠some b:=fun t ht b cs' hb e=>own_bk_ne hownS hb ht e.symm
                have hfty:∀b,(Value.slice As p cs).ownBlock=some b→∃t cs',Bk wr b t cs'∧(t=174∨t=177):=fun b hb=>by
                    obtain ⟨cs',h⟩:=own_ty hownS hb
                    exact ⟨_,cs',h,.inr rfl⟩
                have c71:wr.cell? ⟨gv,lv,none⟩=some (.slice As p cs):=(hb4.cell lv).trans (by rw [wcells_at _ _ _ _ hl9,if_pos rfl])
                have hgvlt:=hb4.lt
                have hgBlt:=hbits4.blk.lt
                have hm512:p+1≤512:=by omega
                have hpI:(p:Int) < (m:Int):=by omega
                have hsWv:=Hb2.out.size
                have Hown:=Lib.hid hown
                have HownS:=Lib.hid hownS
                have Htr:=Lib.hid htr
                have Hdis:=Lib.hid hdis
                have Hfty:=Lib.hid hfty
                have C71:=Lib.hid c71
                have Hb4:=Lib.hid hb4
                have Hk4:=Lib.hid hk4
                have Hbits4:=Lib.hid hbits4
                have Hxs:=Lib.hid hxs
                clear hown hownS htr hdis hfty c71 hb4 hk4 hbits4 hxs hTp hq
                go_wp2_with fail
                refine wp_region_any (by kernel_rfl) ?_
                refine wpAny_keep_tail 18 [64,65,66,67,68,69,70,71,72,73,74,75,76,77,78,79,80,81] (fun b=>(Value.slice As p cs).ownBlock=some b) 14 [14] (fun w2=>w2.ownsRow W3.heap.size 177 3 (.slice As p cs) p (shelfL G lv p)) (fun v w2=>∃gt,TreeB w2 wr.heap.size gt xs∧w2.ownsRow W3.heap.size 177 3 v (p+1) (shelfL G lv p++ [.pointer (some ⟨gt,0,none⟩),.int .i64 (lv:Int),.int .i64 (p:Int)])) [is (.pointer (some ⟨gv,0,none⟩)),is (.int .i64 (lv:Int)),is (.pointer (some ⟨gv,0,none⟩)),is (.int .i64 (lv:Int)),is (.pointer (some ⟨gv,0,none⟩)),is (.pointer (some ⟨gv,0,none⟩)),is (.pointer (some ⟨gv,lv,none⟩)),is (.slice As p cs),is (.slice A9 q c9),fun v w2=>∃gt,v=.pointer (some ⟨gt,0,none⟩)∧TreeB w2 wr.heap.size gt xs,is (.int .i64 (lv:Int)),is (.int .i64 (p:Int)),fun v w2=>∃gt,v=.agg #[.pointer (some ⟨gt,0,none⟩),.int .i64 (lv:Int),.int .i64 (p:Int)]∧TreeB w2 wr.heap.size gt xs,fun v w2=>∃g gt,v=.slice (some ⟨g,0,none⟩) 1 1∧Bk w2 g 177 #[.pointer (some ⟨gt,0,none⟩),.int .i64 (lv:Int),.int .i64 (p:Int)]∧(Value.slice As p cs).ownBlock≠some g∧TreeB w2 wr.heap.size gt xs,anyV,is (.pointer (some ⟨gv,0,none⟩)),is (.pointer (some ⟨gv,0,none⟩)),is (.pointer (some ⟨gv,lv,none⟩))] _ _ rfl (by decide) (by kernel_rfl) (by kernel_rfl) (by kernel_rfl) (HownS.out) (fun w2 w3 h _ hg=>own_below h hg) (fun _ _ _ ⟨gt,h1,h2⟩ k=>⟨gt,h1.below k,own_below h2 k⟩) (by repeat' (first | exact stbk_is _ _ | exact stbk_any _ | exact fun _ _ _ ⟨gt,h1,h2⟩ k=>⟨gt,h1,h2.keep k (fun b hb=>(hSlt b hb).2)⟩| exact fun _ _ _ ⟨g,gt,h1,h2,h3,h4⟩ k=>⟨g,gt,h1,k.bk h2 h3,h3,h4.keep k (fun b hb=>(hSlt b hb).2)⟩|(refine List.forall_mem_cons.2 ⟨?_,?_⟩)|(intro p hp;cases hp))) ?_ ?_
                · refine steps_of_n ?_
                  refine steps_cons (step_on3 rfl rfl fun ev _ _ _ _ _ hold _ _ _ _ hK=>?_) ?_
                  · have e4:ev (.tmp 4)=.pointer (some ⟨gv,0,none⟩):=hold 4 (by kernel_rfl)
                    go_simp
                    exact hK _ _ (kstep_grow (Below.refl _ _)) rfl
                  refine steps_cons (step_on3 rfl rfl fun ev _ _ _ _ _ hold _ _ _ _ hK=>?_) ?_
                  · have e7:ev (.tmp 7)=.int .i64 (lv:Int):=hold 7 (by kernel_rfl)
                    go_simp
                    exact hK _ _ (kstep_grow (Below.refl _ _)) rfl
                  refine steps_cons (step_on3 rfl rfl fun ev _ _ _ _ _ hold _ _ _ _ hK=>?_) ?_
                  · have e4:ev (.tmp 4)=.pointer (some ⟨gv,0,none⟩):=hold 4 (by kernel_rfl)
                    go_simp
                    exact hK _ _ (kstep_grow (Below.refl _ _)) rfl
                  refine steps_cons (step_on3 rfl rfl fun ev _ _ _ _ _ hold _ _ _ _ hK=>?_) ?_
                  · have e7:ev (.tmp 7)=.int .i64 (lv:Int):=hold 7 (by kernel_rfl)
                    go_simp
                    exact hK _ _ (kstep_grow (Below.refl _ _)) rfl
                  refine steps_cons (step_on3 rfl rfl fun _ _ _ _ _ _ _ hval _ _ _ hK=>?_) ?_
                  · have e66:_=_:=hval 2 66 (by kernel_rfl) rfl
                    go_simp
                    exact hK _ _ (kstep_grow (Below.refl _ _)) rfl
                  refine steps_cons (step_on3 rfl rfl fun _ _ _ _ _ _ _ hval _ _ _ hK=>?_) ?_
                  · have e68:_=_:=hval 4 68 (by kernel_rfl) rfl
                    go_simp
                    exact hK _ _ (kstep_grow (Below.refl _ _)) rfl
                  refine steps_cons (step_on3 rfl rfl fun _ _ _ _ _ _ _ hval _ _ _ hK=>?_) ?_
                  · have e69:_=_:=hval 5 69 (by kernel_rfl) rfl
                    have e67:_=_:=hval 3 67 (by kernel_rfl) rfl
                    go_simp
                    exact hK _ _ (kstep_grow (Below.refl _ _)) rfl
                  refine steps_cons (step_on3 rfl rfl fun _ w5 hS _ _ _ _ hval _ _ _ hK=>?_) ?_
                  · replace hS:Keep (fun b=>(Value.slice As p cs).ownBlock=some b) wr w5:=⟨hS.os,hS.tape,hS.output,hS.size,hS.block⟩
                    have e70:_=_:=hval 6 70 (by kernel_rfl) rfl
                    have c71:w5.cell? ⟨gv,lv,none⟩=some (.slice As p cs):=(hS.cell (p:=⟨gv,lv,none⟩) hgvlt hgvF).trans C71.out
                    go_simp
                    exact hK _ _ (kstep_grow (Below.refl _ _)) rfl
                  refine steps_cons (step_on3 rfl rfl fun ev _ _ _ _ _ hold _ _ _ _ hK=>?_) ?_
                  · have e13:ev (.tmp 13)=.slice A9 q c9:=hold 13 (by kernel_rfl)
                    go_simp
                    exact hK _ _ (kstep_grow (Below.refl _ _)) rfl
                  refine steps_cons (step_on3 rfl rfl fun _ w5 hS _ _ _ _ hval _ _ _ hK=>?_) ?_
                  · replace hS:Keep (fun b=>(Value.slice As p cs).ownBlock=some b) wr w5:=⟨hS.os,hS.tape,hS.output,hS.size,hS.block⟩
                    have e72:_=_:=hval 8 72 (by kernel_rfl) rfl
                    go_simp
                    have own5:=own_same Hown.out (fun b cs' hb hbk=>hS.bk hbk (Hdis.out _ (by decide) b cs' hbk))
                    refine (TreeNew_any A9 q c9 w5.heap.size xs w5 (Rd.of_own own5) (Nat.le_refl _) hq128 hqc).mono ?_
                    rintro e w8 ⟨gt,rfl,htb,hb8⟩
                    exact hK _ _ (kstep_grow hb8) ⟨gt,rfl,htb.mono hS.size⟩
                  refine steps_cons (step_on3 rfl rfl fun ev _ _ _ _ _ hold _ _ _ _ hK=>?_) ?_
                  · have e7:ev (.tmp 7)=.int .i64 (lv:Int):=hold 7 (by kernel_rfl)
                    go_simp
                    exact hK _ _ (kstep_grow (Below.refl _ _)) rfl
                  refine steps_cons (step_on3 rfl rfl fun ev _ _ _ _ _ hold _ _ _ _ hK=>?_) ?_
                  · have e12:ev (.tmp 12)=.int .i64 (p:Int):=hold 12 (by kernel_rfl)
                    go_simp
                    exact hK _ _ (kstep_grow (Below.refl _ _)) rfl
                  refine steps_cons (step_on3 rfl rfl fun ev w5 _ _ _ _ _ hval _ _ _ hK=>?_) ?_
                  · have p73:(fun v w2=>∃gt,v=.pointer (some ⟨gt,0,none⟩)∧TreeB w2 wr.heap.size gt xs) (ev (.tmp 73)) w5:=hval 9 73 (by kernel_rfl) rfl
                    have e74:_=_:=hval 10 74 (by kernel_rfl) rfl
                    have e75:_=_:=hval 11 75 (by kernel_rfl) rfl
                    obtain ⟨gt,e73,ht73⟩:=p73
                    go_simp
                    exact hK _ _ (kstep_grow (Below.refl _ _)) ⟨gt,rfl,ht73⟩
                  refine steps_cons (step_on3 rfl rfl fun ev w5 hS _ _ _ _ hval _ _ _ hK=>?_) ?_
                  · replace hS:Keep (fun b=>(Value.slice As p cs).ownBlock=some b) wr w5:=⟨hS.os,hS.tape,hS.output,hS.size,hS.block⟩
                    have p76:(fun v w2=>∃gt,v=.agg #[.pointer (some ⟨gt,0,none⟩),.int .i64 (lv:Int),.int .i64 (p:Int)]∧TreeB w2 wr.heap.size gt xs) (ev (.tmp 76)) w5:=hval 12 76 (by kernel_rfl) rfl
                    obtain ⟨gt,e76,ht76⟩:=p76
                    go_simp
                    exact hK _ _ (kstep_grow ((Below.refl _ _).alloc (Nat.le_refl _) _)) ⟨_,gt,rfl,Bk.new _ _ _,fun h=>by have:=(hSlt _ h).2;have:=hS.size;omega,ht76.below ((Below.refl _ _).alloc (Nat.le_refl _) _)⟩
                  refine steps_cons (step_on3 rfl rfl fun ev w5 hS hU _ _ _ hval _ _ ha hK=>?_) ?_
                  · replace hS:Keep (fun b=>(Value.slice As p cs).ownBlock=some b) wr w5:=⟨hS.os,hS.tape,hS.output,hS.size,hS.block⟩
                    have hpre:=hU rfl
                    have e71:_=_:=hval 7 71 (by kernel_rfl) rfl
                    have p77:(fun v w2=>∃g gt,v=.slice (some ⟨g,0,none⟩) 1 1∧Bk w2 g 177 #[.pointer (some ⟨gt,0,none⟩),.int .i64 (lv:Int),.int .i64 (p:Int)]∧(Value.slice As p cs).ownBlock≠some g∧TreeB w2 wr.heap.size gt xs) (ev (.tmp 77)) w5:=hval 13 77 (by kernel_rfl) rfl
                    obtain ⟨g77,gt,e77,hb77,hn77,ht77⟩:=p77
                    subst ha
                    have hw5:W3.heap.size≤w5.heap.size:=Nat.le_trans hs4 hS.size
                    refine wp_append_rd w5 (.tmp 71) (.tmp 77) _ rfl W3.heap.size 177 i2 _ 3 24 Tryz.underlying171 gi2 gz0 gz1 gz2 rfl (by decide) (.slice As p cs) p (shelfL G lv p) e71 hpre w5.heap.size (some ⟨g77,0,none⟩) 1 1 _ e77 (rd_eight hb77 rfl) (by simp [Value.oneCell']) (by unfold maxLen;omega) (by omega) hw5 ?_
                    intro v6 w6 hown6 hg6 hat6
                    have kF:Keep (fun b=>(Value.slice As p cs).ownBlock=some b) w5 w6:=⟨hg6.os,hg6.tape,hg6.output,hg6.size,fun k hk hn=>hg6.block k hk (fun e=>hn e.symm)⟩
                    exact hK _ _ (kstep_keep kF) ⟨gt,ht77.keep kF (fun b hb=>(hSlt b hb).2),hown6⟩
                  refine steps_cons (step_on3 rfl rfl fun _ _ _ _ _ _ _ hval _ _ _ hK=>?_) ?_
                  · have e64:_=_:=hval 0 64 (by kernel_rfl) rfl
                    go_simp
                    exact hK _ _ (kstep_grow (Below.refl _ _)) rfl
                  refine steps_cons (step_on3 rfl rfl fun _ _ _ _ _ _ _ hval _ _ _ hK=>?_) ?_
                  · have e79:_=_:=hval 15 79 (by kernel_rfl) rfl
                    go_simp
                    exact hK _ _ (kstep_grow (Below.refl _ _)) rfl
                  refine steps_cons (step_on3 rfl rfl fun _ _ _ _ _ _ _ hval _ _ _ hK=>?_) ?_
                  · have e80:_=_:=hval 16 80 (by kernel_rfl) rfl
                    have e65:_=_:=hval 1 65 (by kernel_rfl) rfl
                    go_simp
                    exact hK _ _ (kstep_grow (Below.refl _ _)) rfl
                  exact steps_nil
                · intro ev w6 f hS hval
                  replace hS:Keep (fun b=>(Value.slice As p cs).ownBlock=some b) wr w6:=⟨hS.os,hS.tape,hS.output,hS.size,hS.block⟩
                  have p78:(fun v w2=>∃gt,TreeB w2 wr.heap.size gt xs∧w2.ownsRow W3.heap.size 177 3 v (p+1) (shelfL G lv p++ [.pointer (some ⟨gt,0,none⟩),.int .i64 (lv:Int),.int .i64 (p:Int)])) (ev (.tmp 78)) w6:=hval 14 78 (by decide) rfl
                  have e81:ev (.tmp 81)=.pointer (some ⟨gv,lv,none⟩):=hval 17 81 (by decide) rfl
                  simp only [putsOf,List.foldl_cons,List.foldl_nil,Act.put,List.setIfInBounds_toArray,List.set_cons_zero,List.set_cons_succ]
                  rw [e81]
                  clear hval
                  obtain ⟨gt,ht6,hown6⟩:=p78
                  obtain ⟨A8,c8,e78,_,_⟩:=own_shape hown6
                  rw [e78] at hown6⊢
                  have hb6:=hS.bk Hb4.out hgvF
                  have c81:w6.cell? ⟨gv,lv,none⟩=some (.slice As p cs):=(hS.cell (p:=⟨gv,lv,none⟩) hgvlt hgvF).trans C71.out
                  have f81:=hb6.frozen lv
                  have Hb6:=Lib.hid hb6
                  have Hown6:=Lib.hid hown6
                  have Ht6:=Lib.hid ht6
                  have hgv6:=hb6.lt
                  clear hb6 hown6 ht6
                  change wpAny Tryz.prog Region.Mode.any _ _ (1+f) (firstN 18 19) _ w6
                  rw [Nat.add_comm 1 f]
                  refine wpAny_one (f:=f) (i:=18) (by kernel_rfl) ?_
                  refine wpOp_run rfl rfl ?_
                  generalize hK:wpAny Tryz.prog _ _ _ f _=K5
                  go_simp
                  subst hK
                  refine wpAny_all (by kernel_rfl) ?_
                  have kset:Keep (fun b=>b=gv) w6 (w6.setCell ⟨gv,lv,none⟩ (.slice A8 (p+1) c8)):=Keep.setCell (F:=fun b=>b=gv) (Keep.refl _ _) (p:=⟨gv,lv,none⟩) (.inl rfl) _
                  have hset:∀t,174≠t→∀b cs',Bk w6 b t cs'→Bk (w6.setCell ⟨gv,lv,none⟩ (.slice A8 (p+1) c8)) b t cs':=fun t ht b cs' hb=>hb.far (fun e=>Bk.ne Hb6.out hb ht e.symm) _
                  have kall:Keep (fun b=>b=gv) Wv (w6.setCell ⟨gv,lv,none⟩ (.slice A8 (p+1) c8)):=(Hk4.out.trans' hS (fun b hb f=>by have:=(hSlt b f).1;omega)).trans kset
                  have bits7:=Hbits4.out.same (w':=w6.setCell ⟨gv,lv,none⟩ (.slice A8 (p+1) c8)) (fun b cs' hb=>hset _ (by decide) _ _ (hS.bk hb (Hdis.out _ (by decide) b cs' hb))) (fun b cs' hb=>hset _ (by decide) _ _ (hS.bk hb (Hdis.out _ (by decide) b cs' hb)))
                  have bk7:=Hb6.out.set lv (.slice A8 (p+1) c8)
                  rw [wcells_set _ _ _ lv hl9] at bk7
                  have eqS:(fun j_1=>if j_1=lv then Value.slice A8 (p+1) c8 else if j_1=lv then Value.slice As p cs else S j_1)=(fun i=>if i=lv then Value.slice A8 (p+1) c8 else S i):=by
                     funext i
                     by_cases e:i=lv
                     · rw [if_pos e,if_pos e]
                     · rw [if_neg e,if_neg e,if_neg e]
                  rw [eqS] at bk7
                  have row7:ShelfRow (w6.setCell ⟨gv,lv,none⟩ (.slice A8 (p+1) c8)) W3.heap.size (.slice A8 (p+1) c8) L lv (p+1):=by
                     refine ⟨fun i=>if i=p then gt else G i,?_,fun p' hp'=>?_⟩
                     · rw [shelfL_succ,shelfL_congr (fun i=>if i=p then gt else G i) G lv p (fun i hi=>if_neg (by omega)),if_pos rfl]
                       exact own_same Hown6.out fun b cs' _ hb=>hset _ (by decide) _ _ hb
                     · show W3.heap.size≤(if p'=p then gt else G p')∧TreeAt _ (if p'=p then gt else G p') _
                       by_cases e:p'=p
                       · subst e
                         rw [if_pos rfl,Hxs.out]
                         exact ⟨by obtain ⟨_,_,l1,_⟩:=Ht6.out;omega,Ht6.out.at.keepT kset fun b e=>⟨_,_,(show b=gv from e)▸ Hb6.out,.inl rfl⟩⟩
                       · rw [if_neg e]
                         exact ⟨(Htr.out p' (by omega)).1,((Htr.out p' (by omega)).2.keepT hS Hfty.out).keepT kset fun b e=>⟨_,_,(show b=gv from e)▸ Hb6.out,.inl rfl⟩⟩
                  have size7:W3.heap.size≤(w6.setCell ⟨gv,lv,none⟩ (.slice A8 (p+1) c8)).heap.size:=Nat.le_trans hs4 (Nat.le_trans hS.size kset.size)
                  have K1:=Lib.hid kall
                  have K2:=Lib.hid bits7
                  have K3:=Lib.hid bk7
                  have K4:=Lib.hid row7
                  clear kset hset kall bits7 bk7 row7 eqS
                  go_wp2_with fail
                  go_roundw
                  case rel=>exact ⟨p+1,_,by omega,by go_num,K2.out,K1.out,size7,K3.out,K4.out⟩
                  case measure=>simp [intOf];omega
              · have hpm2:p=m:=by omega
                subst hpm2
                have hWw:Below w.heap.size w wr:=Hbw2.out.trans (hk4.to_below Hbw2.out.size (fun b hb e=>by have:=Hgv.out;omega))
                have hWs:W.heap.size≤wr.heap.size:=Nat.le_trans hWr hk4.size
                have hrows4:∀i,i < lv+1→ShelfRow wr w.heap.size (if i=lv then v else S i) L i (2 ^ i):=by
                    intro i hi
                    by_cases e:i=lv
                    · subst e
                      rw [if_pos rfl,Hm.out]
                      exact hrow4.mono hwW3
                    · rw [if_neg e]
                      exact (Hrows.out i (by omega)).keepW hk4 HbS.out
                have hnil4:∀i,lv+1≤i→(if i=lv then v else S i)=.slice none 0 0:=by
                    intro i hi
                    rw [if_neg (by omega)]
                    exact Hnils.out i (by omega)
                have K1:=Lib.hid hWw
                have K2:=Lib.hid hrows4
                have K3:=Lib.hid hnil4
                have K4:=Lib.hid hb4
                clear hWw hrows4 hnil4 hb4 hbits4 hk4 hrow4
                go_wp2_with fail
                go_roundw
                case rel=>exact ⟨lv+1,by omega,by go_num,K1.out,hWs,_,K4.out,K2.out,K3.out⟩
                case measure=>simp [intOf];omega
        · have hl9':lv=9:=by omega
          subst hl9'
          have hfin:WaveAt wr w.heap.size gv L:=⟨by omega,S,0,by rw [Hll.out];exact hbS,fun i hi=>hrows i (by omega)⟩
          have K1:=Lib.hid hfin
          have K2:=Lib.hid hbw
          clear hfin hbw hbS hrows hnils
          go_wp2_with fail
          go_ret2
          exact ⟨gv,rfl,by omega,K1.out,K2.out⟩
end Go.Proofs.YtipaccakmndkgaaGreatDoor
