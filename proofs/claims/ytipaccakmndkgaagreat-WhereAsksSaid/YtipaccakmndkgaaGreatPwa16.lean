/- Words for the wave's New: rows of bits of one level, path by path. No conditions. The walk of sorted.Last: the symbols ahead of the sorted suffixes. Conditions: at most 200 bytes. -/
import Derived.Test.YtipaccakmndkgaaGreatPwa14
import Derived.Test.YtipaccakmndkgaaGreatPwa5
import Derived.Test.YtipaccakmndkgaaGreatPwa15
namespace Go.Proofs.YtipaccakmndkgaaGreat
open Go.RowKit
set_option linter.unusedVariables false
set_option linter.unusedSimpArgs false
@[irreducible] def rowC (T:Nat→Value) (m:Nat):Array Value:=Array.ofFn (n:=m) fun i=>T i.val
theorem rowC_size (T:Nat→Value) (m:Nat):(rowC T m).size=m:=by unfold rowC;simp
theorem rowC_get (T:Nat→Value) (m i:Nat) (h:i < m):(rowC T m)[i]?=some (T i):=by
 unfold rowC
 rw [Array.getElem?_ofFn,dif_pos h]
theorem rowC_set (T:Nat→Value) (m i:Nat) (h:i < m) (v:Value):(rowC T m).setIfInBounds i v=rowC (fun j=>if j=i then v else T j) m:=by
 apply Array.ext_getElem?
 intro j
 rcases Nat.lt_or_ge j m with hj | hj
 · rw [rowC_get _ _ _ hj]
   by_cases e:i=j
   · subst e
     rw [Array.getElem?_setIfInBounds_self_of_lt (by rw [rowC_size];exact h),if_pos rfl]
   · rw [Array.getElem?_setIfInBounds_ne e,rowC_get _ _ _ hj,if_neg (fun x=>e x.symm)]
 · rw [Array.getElem?_eq_none (by simp [rowC_size];exact hj),Array.getElem?_eq_none (by rw [rowC_size];exact hj)]
theorem rowC_const (v:Value) (m:Nat):rowC (fun _=>v) m=Array.replicate m v:=by
 apply Array.ext_getElem?
 intro j
 rcases Nat.lt_or_ge j m with hj | hj
 · rw [rowC_get _ _ _ hj]
   simp [hj]
 · rw [Array.getElem?_eq_none (by rw [rowC_size];exact hj),Array.getElem?_eq_none (by simpa using hj)]
structure Bits (w:World) (B gB m:Nat) (T:Nat→Value) (R:Nat→List Bool):Prop where
 blk:Bk w gB 105 (rowC T m)
 own:∀p,p < m→w.ownsRow B 4 1 (T p) (R p).length ((R p).map Value.bool)
 apart:∀p q,p < m→q < m→p≠q→∀b,(T p).ownBlock=some b→(T q).ownBlock≠some b
theorem Bits.same {w w':World} {B gB m:Nat} {T:Nat→Value} {R:Nat→List Bool} (h:Bits w B gB m T R) (k1:∀b cs,Bk w b 105 cs→Bk w' b 105 cs) (k2:∀b cs,Bk w b 4 cs→Bk w' b 4 cs):Bits w' B gB m T R:=
 ⟨k1 _ _ h.blk,fun p hp=>own_same (h.own p hp) fun b cs _ hb=>k2 b cs hb,h.apart⟩
theorem Bits.below {w w':World} {B gB m:Nat} {T:Nat→Value} {R:Nat→List Bool} (h:Bits w B gB m T R) (k:Below w.heap.size w w'):Bits w' B gB m T R:=h.same (fun b cs hb=>hb.below k hb.lt) (fun b cs hb=>hb.below k hb.lt)
theorem Bits.start (w:World) (B gB m:Nat) (h:Bk w gB 105 (rowC (fun _=>.slice none 0 0) m)):Bits w B gB m (fun _=>.slice none 0 0) (fun _=> []):=
 ⟨h,fun p hp=>World.ownsRow_nil _ _ _ _,fun p q _ _ _ b hb=>by simp [Value.ownBlock] at hb⟩
theorem Bits.push {w w1:World} {B gB m p:Nat} {T:Nat→Value} {R:Nat→List Bool} {v:Value} {b:Bool} (h:Bits w B gB m T R) (hp:p < m) (k:Keep (fun b=>(T p).ownBlock=some b) w w1)
 (ho:w1.ownsRow B 4 1 v ((R p).length+1) ((R p).map Value.bool++ [.bool b])) (ha:v.ownBlock=(T p).ownBlock∨∃g,v.ownBlock=some g∧w.heap.size≤g):
 Bits (w1.setCell ⟨gB,p,none⟩ v) B gB m (fun j=>if j=p then v else T j) (fun j=>if j=p then R p++ [b] else R j):=by
 have hne:(T p).ownBlock≠some gB:=by
  intro e
  exact own_bk_ne (h.own p hp) h.blk (by decide) e.symm
 have hb1:=k.bk h.blk hne
 have hset:∀g cs,Bk w1 g 4 cs→Bk (w1.setCell ⟨gB,p,none⟩ v) g 4 cs:=fun g cs hg=>hg.far (Bk.ne hg hb1 (by decide)) _
 refine ⟨?_,fun q hq=>?_,fun q r hq hr hqr b' hb'=>?_⟩
 · rw [←rowC_set T m p hp v]
   exact hb1.set p v
 · by_cases e:q=p
   · subst e
     rw [if_pos rfl,if_pos rfl,List.length_append,List.map_append]
     exact own_same ho fun g cs _ hg=>hset g cs hg
   · rw [if_neg e,if_neg e]
     refine own_same (h.own q hq) fun g cs hg hgb=>hset g cs (k.bk hgb ?_)
     exact fun x=>h.apart q p hq hp e g hg x
 · have lt:∀q,q < m→∀x,(T q).ownBlock=some x→x < w.heap.size:=fun q hq x hx=>((h.own q hq).lt x hx).2
   have hv:∀q,q < m→q≠p→∀x,v.ownBlock=some x→(T q).ownBlock≠some x:=by
    intro q hq hqp x hx hy
    rcases ha with ha |⟨g,hg,hge⟩
    · rw [ha] at hx
      exact h.apart p q hp hq (fun e=>hqp e.symm) x hx hy
    · rw [hg] at hx
      cases hx
      have:=lt q hq _ hy
      omega
   by_cases e1:q=p
   · subst e1
     rw [if_pos rfl] at hb'
     rw [if_neg (fun e=>hqr e.symm)]
     exact hv r hr (fun e=>hqr e.symm) b' hb'
   · rw [if_neg e1] at hb'
     by_cases e2:r=p
     · subst e2
       rw [if_pos rfl]
       intro hx
       exact hv q hq e1 b' hx hb'
     · rw [if_neg e2]
       exact h.apart q r hq hr hqr b' hb'
theorem bits_snoc (L:List Nat) (s lv p:Nat):bitsOf (L++ [s]) lv p=if p=pathN s lv then bitsOf L lv p++ [bitB s lv] else bitsOf L lv p:=by
 unfold bitsOf
 rw [List.filter_append,List.map_append]
 by_cases e:p=pathN s lv
 · rw [if_pos e]
   simp [e]
 · rw [if_neg e]
   have:(pathN s lv==p)=false:=by simp;omega
   simp [this]
theorem Bits.congr {w:World} {B gB m:Nat} {T:Nat→Value} {R R':Nat→List Bool} (h:Bits w B gB m T R) (e:∀p,p < m→R p=R' p):Bits w B gB m T R':=
 ⟨h.blk,fun p hp=>by rw [←e p hp];exact h.own p hp,h.apart⟩
theorem own_ty {w:World} {base:Nat} {e:TypeId} {sz n b:Nat} {v:Value} {xs:List Value} (h:w.ownsRow base e sz v n xs) (hb:v.ownBlock=some b):∃cs,Bk w b e cs:=by
 rcases h.2 with ⟨rfl,_⟩|⟨g,cap,cur,rfl,_,hg,_⟩
 · simp [Value.ownBlock] at hb
 · have e1:g=b:=by simpa [Value.ownBlock] using hb
   subst e1
   exact ⟨cur,hg⟩
theorem TreeAt.keepT {w w':World} {F:Nat→Prop} {gt:Nat} {bs:List Bool} (h:TreeAt w gt bs) (k:Keep F w w') (hf:∀b,F b→∃t cs,Bk w b t cs∧(t=81∨t=84)):TreeAt w' gt bs:=by
 refine h.same fun b t cs hin hb=>k.bk hb fun hF=>?_
 obtain ⟨t',cs',hb',ht⟩:=hf b hF
 have e:=(bk_inj hb hb').1
 subst e
 rcases ht with rfl | rfl
 · exact absurd hin (by decide)
 · exact absurd hin (by decide)
theorem ShelfRow.keepW {w w':World} {gv B:Nat} {cs:Array Value} {v:Value} {L:List Nat} {lv m:Nat} (h:ShelfRow w B v L lv m) (k:Keep (fun b=>b=gv) w w') (hw:Bk w gv 81 cs):ShelfRow w' B v L lv m:=by
 obtain ⟨G,h1,h2⟩:=h
 refine ⟨G,own_same h1 fun b cs _ hb=>k.bk hb fun e=>?_,fun p hp=>⟨(h2 p hp).1,(h2 p hp).2.keepT k fun b e=>by
  have e':b=gv:=e
  subst e'
  exact ⟨_,cs,hw,.inl rfl⟩⟩⟩
 have e':b=gv:=e
 subst e'
 exact absurd (bk_inj hb hw).1 (by decide)
theorem ShelfRow.mono {w:World} {B B':Nat} {v:Value} {L:List Nat} {lv m:Nat} (h:ShelfRow w B v L lv m) (hB:B'≤B):ShelfRow w B' v L lv m:=by
 obtain ⟨G,h1,h2⟩:=h
 exact ⟨G,own_mono h1 hB,fun p hp=>⟨Nat.le_trans hB (h2 p hp).1,(h2 p hp).2⟩⟩
end Go.Proofs.YtipaccakmndkgaaGreat
namespace Go.Proofs.YtipaccakmndkgaaGreat
open Go.RowKit
set_option linter.unusedVariables false
set_option linter.unusedSimpArgs false
def prevL (l:List Nat) (i:Nat):Nat:=l.getD ((i+l.length - 1)% l.length) 0
def lastL (l rs:List Nat):List Nat:=rs.map (prevL l)
theorem lastL_len (l rs:List Nat):(lastL l rs).length=rs.length:=by simp [lastL]
theorem prevL_lt {l:List Nat} (h:∀s∈l,s < 257) (i:Nat):prevL l i < 257:=by
 unfold prevL
 rw [List.getD_eq_getElem?_getD]
 cases e:l[(i+l.length - 1)% l.length]? with
 | none=>simp
 | some x=>simpa using h x (List.mem_of_getElem? e)
theorem lastL_lt {l rs:List Nat} (h:∀s∈l,s < 257):∀s∈lastL l rs,s < 257:=by
 intro s hs
 obtain ⟨i,_,rfl⟩:=List.mem_map.1 hs
 exact prevL_lt h i
theorem run_ints0 (n:Nat) (hn:n≤1000000) (w:World):(Instr.makeSlice 22 (.int .i64 0) (.int .i64 (n:Int))).run Tryz.prog w=.ok (.slice (some ⟨w.heap.size,0,none⟩) 0 n) (w.alloc (.cells (madeCells #[.int .i64 0] n) 3)):=by
 obtain ⟨i0,hi0,hz0,hz1,hz2⟩:=info_parts int_info
 have:=run_make (P:=Tryz.prog) w 22 3 i0 (.int .i64 0) Tryz.underlying22 hi0 hz0 .i64 .i64 0 n (by omega) (by omega) (by rw [hz2];omega) (by omega)
 rw [this,hz1]
 simp only [Value.cells,Int.toNat_natCast,Nat.mul_one]
 rfl
theorem rd_grown {w w':World} {sz n:Nat} {A:Option Addr} {xs:List Value} {row:Option Nat} (h:Rd w w.heap.size sz A n xs) (hg:w.grownBy w' row) (hA:∀a,A=some a→row≠some a.block):Rd w' w'.heap.size sz A n xs:=by
 refine ⟨h.1,fun hn=>?_⟩
 obtain ⟨b,off,rfl,hb,hc⟩:=h.2 hn
 refine ⟨b,off,rfl,Nat.lt_of_lt_of_le hb hg.size,fun j u hu=>?_⟩
 rw [World.cell?_of_block (w:=w) (hg.block b hb (fun e=>hA _ rfl e.symm))]
 exact hc j u hu
def Apt (v:Value) (A:Option Addr):Prop:=∀a,A=some a→v.ownBlock≠some a.block
theorem Apt.next {v v':Value} {A:Option Addr} {g:Nat} (h:Apt v A) (ho:v'.ownBlock=v.ownBlock∨v'.ownBlock=some g) (hA:∀a,A=some a→a.block < g):Apt v' A:=by
 intro a ha hb
 rcases ho with e | e
 · exact h a ha (e.symm.trans hb)
 · rw [e] at hb
   injection hb with hb
   have:=hA a ha
   omega
set_option maxRecDepth 100000 in
set_option maxHeartbeats 2000000 in
theorem SortedLast_any (A:Option Addr) (m c B:Nat) (t:List UInt8) (w:World) (hr:Rd w B 1 A m (t.map bv)) (hB:B≤w.heap.size) (hm:m≤200):
 Calls Tryz.prog 38 #[.slice A m c] w fun e w'=>∃rs A' c',IsSuf (symL t) rs∧e=.returned (.slice A' (m+1) c')∧Made w' w.heap.size 3 1 A' (m+1) c' ((lastL (symL t) rs).map sv)∧Below w.heap.size w w':=by
 obtain ⟨i0,hi0,hz0,hz1,hz2⟩:=info_parts int_info
 have htl:t.length=m:=by simpa using hr.1
 have Hr:=Lib.hid hr
 have Htl:=Lib.hid htl
 clear hr htl
 go_enter Tryz.func38,Tryz.ntmps38
 go_wp2_with fail
 obtain ⟨n,hn⟩:∃n,m+1=n:=⟨_,rfl⟩
 have hsa:=SymAll_any w.heap.size 0 A m c w.heap.size t (w.alloc (.cells #[.slice A m c] 23)) (Bk.new _ _ _) ((Hr.out.mono hB).alloc (Nat.le_refl _) _) (by simp) (by omega)
 have hrs:=fun W (hb:Below w.heap.size w W)=>SortedRows_any A m c w.heap.size t W ((Hr.out.mono hB).below hb) hb.size hm
 simp only [hn] at hsa hrs
 have hn2:n≤201:=by omega
 have hn1:1≤n:=by omega
 have hll:(symL t).length=n:=by rw [symL_len,Htl.out,hn]
 have HN:=Lib.hid hn
 have Hll:=Lib.hid hll
 have HRS:=Lib.hid hrs
 clear hn hll hrs
 refine hsa.mono ?_
 clear hsa
 rintro e w1 ⟨A1,c1,rfl,hm1,hb1⟩
 have hb1':=((Below.refl w.heap.size w).alloc (Nat.le_refl _) _).trans (hb1.mono (by simp))
 have kz:=run_ints0 n (by omega)
 have Hm1:=Lib.hid hm1
 have Hb1:=Lib.hid hb1'
 clear hm1 hb1 hb1'
 go_wp2_with fail
 clear kz
 have hb2:=Hb1.out.alloc Hb1.out.size (.cells (madeCells #[.int .i64 0] n) 3)
 have hm2:=Hm1.out.below ((Below.refl _ _).alloc (Nat.le_refl _) (.cells (madeCells #[.int .i64 0] n) 3))
 have hown:(w1.alloc (.cells (madeCells #[.int .i64 0] n) 3)).ownsRow w.heap.size 3 1 (.slice (some ⟨w1.heap.size,0,none⟩) 0 n) 0 []:=World.ownsRow_made _ _ _ Hb1.out.size (by unfold maxLen;omega) (by simp [madeCells])
 obtain ⟨g1,hg1⟩:∃g,w1.heap.size=g:=⟨_,rfl⟩
 have hgs:g1 < (w1.alloc (.cells (madeCells #[.int .i64 0] n) 3)).heap.size:=by rw [←hg1];simp
 have hap1:Apt (.slice (some ⟨g1,0,none⟩) 0 n) A1:=by
  intro a ha hb
  obtain ⟨A9,c9,h9,_,h8⟩:=own_shape Hm1.out.own
  injection h9 with h9
  have:=(h8 a (h9.symm.trans ha)).2
  have hb':g1=a.block:=by simpa [Value.ownBlock] using hb
  omega
 have Hap1:=Lib.hid hap1
 clear hap1
 rw [hg1] at hown⊢
 generalize w1.alloc (.cells (madeCells #[.int .i64 0] n) 3)=W2 at hb2 hm2 hown hgs⊢
 have Hown:=Lib.hid hown
 have Hm2:=Lib.hid hm2
 clear hown hm2 Hm1 Hb1 hg1
 refine (HRS.out W2 hb2).mono ?_
 rintro e w3 ⟨rs,A3,c3,hsuf,rfl,hm3,hb3⟩
 have hb3':=hb2.trans (hb3.mono hb2.size)
 have hown3:=own_below Hown.out hb3
 have hm23:=Hm2.out.below hb3
 have hap3:Apt (.slice (some ⟨g1,0,none⟩) 0 n) A3:=by
  intro a ha hb
  obtain ⟨A9,c9,h9,_,h8⟩:=own_shape hm3.own
  injection h9 with h9
  have:=(h8 a (h9.symm.trans ha)).1
  have hb':g1=a.block:=by simpa [Value.ownBlock] using hb
  omega
 have Hap3:=Lib.hid hap3
 clear hap3
 have Hsuf:=Lib.hid hsuf
 have Hm3:=Lib.hid hm3.rd
 have Hm23:=Lib.hid hm23.rd
 have Hown3:=Lib.hid hown3
 have Hb3:=Lib.hid hb3'
 clear hsuf hm3 hm23 hown3 hb3' hb3 hb2 Hown Hm2 HRS
 go_wp2_with fail
 go_loopw [4,6,16] (fun v _ i wr=>∃k:Nat,k≤n∧i=.int .i64 k∧wr.ownsRow w.heap.size 3 1 v k ((lastL (symL t) (rs.take k)).map sv)∧Below w.heap.size w wr∧Apt v A1∧Apt v A3∧Rd wr wr.heap.size 1 A1 n ((symL t).map sv)∧Rd wr wr.heap.size 1 A3 n (rs.map sv)) (fun _ _ i _=>n -(intOf i).toNat)
 case atStart=>exact ⟨0,by omega,rfl,Hown3.out,Hb3.out,Hap1.out,Hap3.out,Hm23.out,Hm3.out⟩
 case round=>
  obtain ⟨k,hk,rfl,hown,hbw,hp1,hp3,hrl,hrr⟩:=hrel
  by_cases hlt:k < n
  · obtain ⟨b,off,u,rfl,hbl,hu,hc⟩:=hrr.get hlt
    rw [List.getElem?_map] at hu
    obtain ⟨p,hp,rfl⟩:=Option.map_eq_some_iff.1 hu
    have hpn:p < n:=by have:=Hsuf.out.lt (List.mem_of_getElem? hp);rw [Hll.out] at this;exact this
    obtain ⟨q,hq⟩:∃q,(p+n - 1)% n=q:=⟨_,rfl⟩
    have hqn:q < n:=by rw [←hq];exact Nat.mod_lt _ (by omega)
    obtain ⟨b',off',u',rfl,hbl',hu',hc'⟩:=hrl.get hqn
    rw [List.getElem?_map] at hu'
    obtain ⟨x,hx,rfl⟩:=Option.map_eq_some_iff.1 hu'
    have hpx:prevL (symL t) p=x:=by
        unfold prevL
        rw [Hll.out,hq,List.getD_eq_getElem?_getD,hx]
        rfl
    have htk:lastL (symL t) (rs.take (k+1))=lastL (symL t) (rs.take k)++ [x]:=by
        rw [List.take_add_one,hp,lastL,List.map_append,←hpx]
        rfl
    unfold sv at hc hc'
    have hqi:((p:Int)+(n:Int) - 1)%(n:Int)=(q:Int):=by
        rw [←hq,Int.natCast_emod]
        congr 1
        omega
    have hqt:((p:Int)+(n:Int) - 1).tmod (n:Int)=(q:Int):=by
        rw [Int.tmod_eq_emod_of_nonneg (by omega)]
        exact hqi
    have Htk:=Lib.hid htk
    have Hown2:=Lib.hid hown
    have Hp1:=Lib.hid hp1
    have Hp3:=Lib.hid hp3
    have Hbw:=Lib.hid hbw
    have Hrl:=Lib.hid hrl
    have Hrr:=Lib.hid hrr
    have Hq:=Lib.hid hq
    clear hu hu' hx hpx htk hown hbw hp1 hp3 hrl hrr hq hp
    go_wp2_with (at_builtin;refine wpList_push _ rfl (.tmp 20) (.tmp 32) _ rfl w.heap.size 3 i0 (.int .i64 0) 1 8 Tryz.underlying22 hi0 hz0 hz1 hz2 rfl (by decide) _ k _ rfl Hown2.out rfl rfl (by simp [Value.oneCell']) (by unfold maxLen;omega) (by omega) Hbw.out.size ?_;intro v2 w2 hown2 hg2 hs2 hat2)
    have hbw2:=below_grown Hbw.out Hown2.out hg2 Hbw.out.size
    have hl1:∀a,some (⟨b',off',none⟩:Addr)=some a→a.block < _:=fun a ha=>by injection ha with ha;subst ha;exact hbl'
    have hl3:∀a,some (⟨b,off,none⟩:Addr)=some a→a.block < _:=fun a ha=>by injection ha with ha;subst ha;exact hbl
    go_roundw
    case rel=>
        refine ⟨k+1,by omega,by go_num,?_,hbw2,Hp1.out.next hat2 (fun a ha=>Nat.lt_succ_of_lt (hl1 a ha)),Hp3.out.next hat2 (fun a ha=>Nat.lt_succ_of_lt (hl3 a ha)),rd_grown Hrl.out hg2 Hp1.out,rd_grown Hrr.out hg2 Hp3.out⟩
        rw [Htk.out,List.map_append]
        exact hown2
    case measure=>simp [intOf];omega
  · obtain rfl:n=k:=by omega
    rw [List.take_of_length_le (by rw [Hsuf.out.len,Hll.out];omega)] at hown
    obtain ⟨A',c',rfl,hm'⟩:=made_of_own hown
    have Hm':=Lib.hid hm'
    have Hbw:=Lib.hid hbw
    clear hown hm' hbw hp1 hp3 hrl hrr
    go_wp2_with fail
    go_ret
    have hcast:∀L,Made wr w.heap.size 3 1 A' n c' L→Made wr w.heap.size 3 1 A' (m+1) c' L:=fun L h=>by
        rw [HN.out]
        exact h
    exact ⟨rs,A',c',Hsuf.out,by rw [HN.out];rfl,hcast _ Hm'.out,Hbw.out⟩
end Go.Proofs.YtipaccakmndkgaaGreat
