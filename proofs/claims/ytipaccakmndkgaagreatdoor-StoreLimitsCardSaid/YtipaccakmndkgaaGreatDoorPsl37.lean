/- The walks of perm's gone, Drop, RowOut, PosOut. Conditions: rows and places in order; at most 1000 numbers. The walk of the reference's In (scrimshawref6): a list with one more at a place. Conditions: at most 1000 numbers. -/
import Derived.Test.YtipaccakmndkgaaGreatDoorPsl35
import Derived.Test.YtipaccakmndkgaaGreatDoorPsl33
import Derived.Test.YtipaccakmndkgaaGreatDoorPsl18
import Derived.StillTailTactics
import Derived.Test.YtipaccakmndkgaaGreatDoorPsl36
import Derived.Test.YtipaccakmndkgaaGreatDoorPsl6
set_option linter.unusedVariables false
set_option linter.unusedSimpArgs false
set_option maxRecDepth 100000
set_option maxHeartbeats 4000000
namespace Go.Proofs.YtipaccakmndkgaaGreatDoor
open Go.RowKit Go.Shelf
end Go.Proofs.YtipaccakmndkgaaGreatDoor
namespace Go.Proofs.YtipaccakmndkgaaGreatDoor
open Go.RowKit
theorem In_any (A:Option Addr) (n c k s B:Nat) (L:List Nat) (w:World) (hr:Rd w B 1 A n (L.map sv)) (hB:B≤w.heap.size) (hnc:n≤c) (hk:k≤n) (hn:n≤1000):
 Calls Tryz.prog 155 #[.slice A n c,.int .i64 (k:Int),.int .i64 (s:Int)] w fun e w'=>∃A' c',e=.returned (.slice A' (n+1) c')∧Made w' w.heap.size 3 1 A' (n+1) c' ((L.take k++s::L.drop k).map sv)∧Below w.heap.size w w':=by
 obtain ⟨i0,hi0,hz0,hz1,hz2⟩:=info_parts int_info
 have hsz8:∀w,(sizeOf 3).run Tryz.prog w=.ok 1 w:=fun w=>by simp [sizeOf,typeInfo,hi0,hz1]
 have hcut1:=hr.cut_hi0 (cap:=c) hk
 have hcut2:=hr.cut (cap:=c) hk hnc
 rw [Nat.mul_one,←List.map_take] at hcut1
 rw [Nat.mul_one,←List.map_drop] at hcut2
 have kh:=run_cut_hi (P:=Tryz.prog) 22 3 1 Tryz.underlying22 hsz8 A n c k (by omega)
 have kl:=run_cut_lo (P:=Tryz.prog) 22 3 1 Tryz.underlying22 hsz8 A n c k hk
 have Hc1:=lhd hcut1
 have Hc2:=lhd hcut2
 have Kl:=lhd kl
 clear hcut1 hcut2 hr kl
 go_enter Tryz.func155,Tryz.ntmps155
 go_wp2_with (at_builtin;refine wpList_append_rd _ rfl (.tmp 8) (.tmp 11) _ rfl w.heap.size 3 i0 (.int .i64 0) 1 8 Tryz.underlying22 hi0 hz0 hz1 hz2 rfl (by decide) (.slice (some ⟨w.heap.size,0,none⟩) 0 0) 0 [] rfl (own_empty w 3 1) w.heap.size (cutA A c 0 1) k c _ rfl ((Hc1.out.mono hB).alloc (Nat.le_refl _) _) (oneCell_sv _) (by unfold maxLen;omega) (by omega) (by simp) ?_;intro v1 w1 hown1 hg1 hat1)
 have hB1:=below_grown ((Below.refl w.heap.size w).alloc (Nat.le_refl _) _) (own_empty w 3 1) hg1 (by simp)
 rw [Nat.zero_add,List.nil_append] at hown1
 obtain ⟨A1,c1,rfl,hm1⟩:=made_of_own hown1
 have hlt1:∀b,(Value.slice A1 k c1).ownBlock=some b→w.heap.size≤b∧b < w1.heap.size:=fun b hb=>hm1.own.lt b hb
 have hs1:=hB1.size
 have Hb1:=lhd hB1
 have Hown:=lhd hown1
 have Hlt:=lhd hlt1
 clear hown1 hg1 hat1 hB1 hm1 hlt1
 go_wp2_with fail
 refine wp_region_any (by kernel_rfl) ?_
 refine wpAny_keep_tail 7 [13,14,15,16,17,18,19] (fun b=>(Value.slice A1 k c1).ownBlock=some b) 3 [3] (fun w2=>w2.ownsRow w.heap.size 3 1 (.slice A1 k c1) k ((L.take k).map sv)) (fun v w2=>w2.ownsRow w.heap.size 3 1 v (k+1) ((L.take k).map sv++ [.int .i64 (s:Int)])) [is (.slice A1 k c1),is (.int .i64 (s:Int)),newBk (fun b=>(Value.slice A1 k c1).ownBlock=some b) 3 #[.int .i64 (s:Int)] fun g=>.slice (some ⟨g,0,none⟩) 1 1,anyV,is (.slice A n c),is (.int .i64 (k:Int)),is (.slice (cutA A c k 1) (n - k) (c - k))] _ _ rfl (by decide) (by kernel_rfl) (by kernel_rfl) (by kernel_rfl) (Hown.out) (fun w2 w3 h _ hg=>own_below h hg) (fun _ _ _ h1 k=>own_below h1 k) (by repeat' (first | exact stbk_is _ _ | exact stbk_any _ | exact stbk_newBk _ _ _ _ |(refine List.forall_mem_cons.2 ⟨?_,?_⟩)|(intro p hp;cases hp))) ?_ ?_
 · refine steps_of_n ?_
   refine steps_cons (step_on3 rfl rfl fun ev _ _ _ _ _ hold _ _ _ _ hK=>?_) ?_
   · have e7:ev (.tmp 7)=.slice A1 k c1:=hold 7 (by kernel_rfl)
     go_simp
     exact kq hK rfl
   refine steps_cons (step_on3 rfl rfl fun ev _ _ _ _ _ hold _ _ _ _ hK=>?_) ?_
   · have e2:ev (.tmp 2)=.int .i64 (s:Int):=hold 2 (by kernel_rfl)
     go_simp
     exact kq hK rfl
   refine steps_cons (step_on3 rfl rfl fun _ w5 hS _ _ _ _ hval _ _ _ hK=>?_) ?_
   · replace hS:Keep (fun b=>(Value.slice A1 k c1).ownBlock=some b) w1 w5:=⟨hS.os,hS.tape,hS.output,hS.size,hS.block⟩
     have e14:_=_:=hval 1 14 (by kernel_rfl) rfl
     go_simp
     exact hK _ _ (kstep_grow ((Below.refl _ _).alloc (Nat.le_refl _) _)) ⟨_,rfl,Bk.new _ _ _,fun h=>by have:=(Hlt.out _ h).2;have:=hS.size;omega⟩
   refine steps_cons (step_on3 rfl rfl fun ev w5 hS hU _ _ _ hval _ _ ha hK=>?_) ?_
   · replace hS:Keep (fun b=>(Value.slice A1 k c1).ownBlock=some b) w1 w5:=⟨hS.os,hS.tape,hS.output,hS.size,hS.block⟩
     have hpre:=hU rfl
     have e13:_=_:=hval 0 13 (by kernel_rfl) rfl
     have p15:(newBk (fun b=>(Value.slice A1 k c1).ownBlock=some b) 3 #[.int .i64 (s:Int)] fun g=>.slice (some ⟨g,0,none⟩) 1 1) (ev (.tmp 15)) w5:=hval 2 15 (by kernel_rfl) rfl
     obtain ⟨g15,e15,hb15,hn15⟩:=p15
     subst ha
     have hw5:w.heap.size≤w5.heap.size:=Nat.le_trans hs1 hS.size
     refine wp_append_rd w5 (.tmp 13) (.tmp 15) _ rfl w.heap.size 3 i0 (.int .i64 0) 1 8 Tryz.underlying22 hi0 hz0 hz1 hz2 rfl (by decide) (.slice A1 k c1) k ((L.take k).map sv) e13 hpre w5.heap.size (some ⟨g15,0,none⟩) 1 1 [.int .i64 (s:Int)] e15 (rd_one hb15) (by simp [Value.oneCell']) (by unfold maxLen;omega) (by omega) hw5 ?_
     intro v6 w6 hown6 hg6 hat6
     exact hK _ _ (kstep_keep ⟨hg6.os,hg6.tape,hg6.output,hg6.size,fun k hk hn=>hg6.block k hk (fun e=>hn e.symm)⟩) hown6
   refine steps_cons (step_on3 rfl rfl fun ev _ _ _ _ _ hold _ _ _ _ hK=>?_) ?_
   · have e0:ev (.tmp 0)=.slice A n c:=hold 0 (by kernel_rfl)
     go_simp
     exact kq hK rfl
   refine steps_cons (step_on3 rfl rfl fun ev _ _ _ _ _ hold _ _ _ _ hK=>?_) ?_
   · have e1:ev (.tmp 1)=.int .i64 (k:Int):=hold 1 (by kernel_rfl)
     go_simp
     exact kq hK rfl
   refine steps_cons (step_on3 rfl rfl fun _ _ _ _ _ _ _ hval _ _ _ hK=>?_) ?_
   · have e17:_=_:=hval 4 17 (by kernel_rfl) rfl
     have e18:_=_:=hval 5 18 (by kernel_rfl) rfl
     have kl:=Kl.out
     go_simp
     exact kq hK rfl
   exact steps_nil
 · intro ev w6 f hS hval
   replace hS:Keep (fun b=>(Value.slice A1 k c1).ownBlock=some b) w1 w6:=⟨hS.os,hS.tape,hS.output,hS.size,hS.block⟩
   have p16:(fun v w2=>w2.ownsRow w.heap.size 3 1 v (k+1) ((L.take k).map sv++ [.int .i64 (s:Int)])) (ev (.tmp 16)) w6:=hval 3 16 (by decide) rfl
   have e19:ev (.tmp 19)=.slice (cutA A c k 1) (n - k) (c - k):=hval 6 19 (by decide) rfl
   simp only [putsOf,List.foldl_cons,List.foldl_nil,Act.put,List.setIfInBounds_toArray,List.set_cons_zero,List.set_cons_succ]
   rw [e19]
   clear hval
   obtain ⟨A8,c8,e16,_,_⟩:=own_shape p16
   rw [e16] at p16⊢
   have hb6:Below w.heap.size w w6:=Hb1.out.trans (hS.to_below hs1 (fun b hb h=>by have:=(Hlt.out _ h).1;omega))
   have hr6:=(Hc2.out.mono hB).below hb6
   have Hown6:=lhd p16
   have hs6:=hb6.size
   have Hb6:=lhd hb6
   have Hr6:=lhd hr6
   clear p16 hb6 hr6
   change wpAny Tryz.prog Region.Mode.any _ _ (2+f) (firstN 7 9) _ w6
   rw [show 2+f=f+1+1 by omega]
   refine wpAny_one (f:=f+1) (i:=7) (by kernel_rfl) ?_
   refine wpOp_run rfl rfl ?_
   refine wp_append_rd w6 (.tmp 16) (.tmp 19) _ rfl w.heap.size 3 i0 (.int .i64 0) 1 8 Tryz.underlying22 hi0 hz0 hz1 hz2 rfl (by decide) (.slice A8 (k+1) c8) (k+1) ((L.take k).map sv++ [.int .i64 (s:Int)]) rfl Hown6.out w6.heap.size (cutA A c k 1) (n - k) (c - k) ((L.drop k).map sv) rfl (Hr6.out.mono hs6) (oneCell_sv _) (by unfold maxLen;omega) (by omega) hs6 ?_
   intro v7 w7 hown7 hg7 hat7
   have hb7:=below_grown Hb6.out Hown6.out hg7 hs6
   have hnk:k+1+(n - k)=n+1:=by omega
   rw [hnk] at hown7
   have hL7:(L.take k).map sv++ [.int .i64 (s:Int)]++(L.drop k).map sv=(L.take k++s::L.drop k).map sv:=by simp [sv]
   rw [hL7] at hown7
   obtain ⟨A9,c9,rfl,hm9⟩:=made_of_own hown7
   have Hm9:=lhd hm9
   have Hb7:=lhd hb7
   clear hown7 hg7 hat7 hb7 hL7 hnk hm9
   refine wpAny_one (f:=f) (i:=8) (by kernel_rfl) ?_
   refine wpOp_run rfl rfl ?_
   generalize hK:wpAny Tryz.prog _ _ _ f _=K5
   go_simp
   subst hK
   refine wpAny_all (by kernel_rfl) ?_
   go_wp2
   go_ret
   exact ⟨A9,c9,rfl,Hm9.out,Hb7.out⟩
structure Part (l:List Nat) (x j:Nat) (L:List Nat):Prop where
 perm:L.Perm (List.range' x j)
 sorted:L.Pairwise (sufLt l)
theorem Part.len {l L:List Nat} {x j:Nat} (h:Part l x j L):L.length=j:=by simpa using h.perm.length_eq
theorem Part.mem {l L:List Nat} {x j p:Nat} (h:Part l x j L) (hp:p∈L):x≤p∧p < x+j:=by
 have:=h.perm.mem_iff.1 hp
 rw [List.mem_range'_1] at this
 exact this
theorem Part.rel {l L:List Nat} {x j i k:Nat} (h:Part l x j L) (hik:i < k) (hk:k < L.length):sufLt l (L[i]'(by omega)) L[k]:=List.pairwise_iff_getElem.1 h.sorted i k (by omega) hk hik
theorem Part.put {l L:List Nat} {x j lo:Nat} (h:Part l (x+1) j L) (hx:x < l.length) (hj:x+1+j≤l.length) (hlo:lo≤L.length) (h1:∀i (hi:i < L.length),i < lo→sufLt l L[i] x) (h2:∀i (hi:i < L.length),lo≤i→¬sufLt l L[i] x):
 Part l x (j+1) (L.take lo++x::L.drop lo):=by
 constructor
 · rw [List.range'_succ]
   refine List.perm_middle.trans (List.Perm.cons x ?_)
   rw [List.take_append_drop]
   exact h.perm
 · have hs:=h.sorted
   rw [←List.take_append_drop lo L,List.pairwise_append] at hs
   rw [List.pairwise_append]
   refine ⟨hs.1,List.pairwise_cons.2 ⟨fun b hb=>?_,hs.2.1⟩,fun a ha b hb=>?_⟩
   · obtain ⟨i,hi,rfl⟩:=List.mem_iff_getElem.1 hb
     rw [List.length_drop] at hi
     rw [List.getElem_drop]
     have hm:=h.mem (List.getElem_mem (l:=L) (n:=lo+i) (by omega))
     rcases sufLt.tri hx (by omega:L[lo+i]'(by omega) < l.length) (by omega) with h3 | h3
     · exact h3
     · exact absurd h3 (h2 (lo+i) (by omega) (by omega))
   · rcases List.mem_cons.1 hb with rfl | hb
     · obtain ⟨i,hi,rfl⟩:=List.mem_iff_getElem.1 ha
       rw [List.length_take] at hi
       rw [List.getElem_take]
       exact h1 i (by omega) (by omega)
     · exact hs.2.2 a ha b hb
def RefRowsPost (t:List UInt8) (n:Nat) (w:World) (e:Ending) (w':World):Prop:=∃A' c' L,e=.returned (.slice A' (n+1) c')∧IsSuf (symL t) L∧Made w' w.heap.size 3 1 A' (n+1) c' (L.map sv)∧Below w.heap.size w w'
theorem RefRows_any (t:List UInt8) (n:Nat) (w:World) (hn:t.length=n) (hn4:n≤900):
 Calls Tryz.prog 81 #[.string ⟨t.toArray⟩] w (RefRowsPost t n w):=by
 have z1:(⟨t.toArray⟩:ByteArray).size=n:=(ba_size t).trans hn
 have hl:(symL t).length=n+1:=by rw [symL_len,hn]
 have Hn:=lhd hn
 have Hl:=lhd hl
 clear hn hl
 go_enter Tryz.func81,Tryz.ntmps81
 go_wp2_with fail
 go_loopw [3,4] (fun v p wr=>∃(j:Nat) (L:List Nat) (A:Option Addr) (c:Nat),j≤n+1∧v=.slice A j c∧p=.int .i64 ((n:Int) -(j:Int))∧Part (symL t) (n+1 - j) j L∧Made wr w.heap.size 3 1 A j c (L.map sv)∧Below w.heap.size w wr) (fun _ p _=>(intOf p+1).toNat)
 case atStart=>exact ⟨0, [],none,0,by omega,rfl,by simp,⟨by simp,List.Pairwise.nil⟩,⟨World.ownsRow_nil _ _ _ _,Rd.nil _ _ _ _,Nat.le_refl _,by unfold maxLen;omega⟩,Below.refl _ _⟩
 case round=>
  obtain ⟨j,L,A,c,hj,rfl,rfl,hpart,hmade,hb⟩:=hrel
  have Hmade:=lhd hmade
  have Hb:=lhd hb
  clear hmade hb
  by_cases hlt:j≤n
  · obtain ⟨x,hx⟩:∃x,n - j=x:=⟨_,rfl⟩
    rw [show n+1 - j=x+1 by omega] at hpart
    have hxI:(n:Int) -(j:Int)=(x:Int):=by omega
    rw [hxI]
    have hx0:(0:Int)≤(x:Int):=by omega
    have hLl:=hpart.len
    have Hpart:=lhd hpart
    have HLl:=lhd hLl
    have Hx:=lhd hx
    have HxI:=lhd hxI
    clear hpart hLl hx hxI
    obtain ⟨W,hW⟩:∃W,W=wr:=⟨_,rfl⟩
    subst hW
    go_wp2_with fail
    go_loopw [5,6] (fun a b wr=>∃lo hi q:Nat,lo≤hi∧hi≤j∧a=.int .i64 (lo:Int)∧b=.int .i64 (hi:Int)∧(∀i (h:i < L.length),i < lo→sufLt (symL t) L[i] x)∧(∀i (h:i < L.length),hi≤i→¬sufLt (symL t) L[i] x)∧wr=W.drewN q) (fun a b _=>(intOf b - intOf a).toNat)
    case atStart=>exact ⟨0,j,0,by omega,by omega,rfl,rfl,fun i h h2=>by omega,fun i h h2=>by have:=HLl.out;omega,rfl⟩
    case round=>
        obtain ⟨lo,hi,q,hlh,hhj,rfl,rfl,h1,h2,rfl⟩:=hrel
        have H1:=lhd h1
        have H2:=lhd h2
        clear h1 h2
        by_cases hlo:lo < hi
        · obtain ⟨m,hm⟩:∃m,(lo+hi)/ 2=m:=⟨_,rfl⟩
          have hloI:(lo:Int) < (hi:Int):=by omega
          have e1:IntKind.i64.wrap ((lo:Int)+(hi:Int))=(lo:Int)+(hi:Int):=by rw [IntKind.wrap_i64];omega
          have e2:((lo:Int)+(hi:Int)).tdiv 2=(m:Int):=by
           rw [←hm]
           exact (Int.ofNat_tdiv (lo+hi) 2).symm
          have e3:IntKind.i64.wrap (m:Int)=(m:Int):=by rw [IntKind.wrap_i64];omega
          have hmj:m < j:=by omega
          have hml:m < L.length:=by rw [HLl.out];exact hmj
          obtain ⟨b,off,u,hA,hbl,hu,hc⟩:=(Hmade.out.rd.drewN q).get hmj
          subst hA
          rw [List.getElem?_map,List.getElem?_eq_getElem hml] at hu
          cases hu
          unfold sv at hc
          have hmem:=Hpart.out.mem (List.getElem_mem hml)
          obtain ⟨y,hy⟩:∃y,L[m]=y:=⟨_,rfl⟩
          rw [hy] at hc hmem
          have Hy:=lhd hy
          have Hc:=hc
          clear hy hc
          have hmlo:lo≤m:=by omega
          have hmhi:m < hi:=by omega
          clear hm
          go_wp2_with fail
          refine (less_any t y x n _ Hn.out (by omega) (by have:=Hx.out;omega) (by have:=Hx.out;omega) (by omega)).mono ?_
          rintro e w5 ⟨r,rfl,hr,q2,rfl⟩
          have Hr:=lhd hr
          clear hr
          cases r with
          | true=>
            go_wp2_with fail
            go_roundw
            case rel=>
             refine ⟨m+1,hi,q+q2,by omega,hhj,by go_num,rfl,fun i h hi2=>?_,H2.out,rfl⟩
             have hy2:sufLt (symL t) L[m] x:=by rw [Hy.out];exact Hr.out.1 (by first | rfl | trivial)
             rcases Nat.lt_or_ge i m with h3 | h3
             · exact (Hpart.out.rel h3 hml).trans hy2
             · obtain rfl:i=m:=by omega
               exact hy2
            case measure=>simp [intOf];omega
          | false=>
            go_wp2_with fail
            go_roundw
            case rel=>
             refine ⟨lo,m,q+q2,by omega,by omega,rfl,by go_num,H1.out,fun i h hi2 h4=>?_,rfl⟩
             have hy2:¬sufLt (symL t) L[m] x:=by
              rw [Hy.out]
              intro h5
              have:=Hr.out.2 h5
              cases this
             rcases Nat.lt_or_ge m i with h3 | h3
             · exact hy2 ((Hpart.out.rel h3 h).trans h4)
             · obtain rfl:i=m:=by omega
               exact hy2 h4
            case measure=>simp [intOf];omega
        · obtain rfl:lo=hi:=by omega
          have hput:=Hpart.out.put (by rw [Hl.out];have:=Hx.out;omega) (by rw [Hl.out];have:=Hx.out;omega) (by rw [HLl.out];exact hhj) H1.out H2.out
          have Hput:=lhd hput
          have hbq:Below W.heap.size W (W.drewN q):=below_drewN (Below.refl _ _) q
          have hm2:=Hmade.out.below hbq
          have Hm2:=lhd hm2
          have Hbq:=lhd hbq
          clear hput hm2 hbq hlo
          go_wp2_with fail
          refine (In_any A j c lo x (W.drewN q).heap.size L (W.drewN q) Hm2.out.rd (Nat.le_refl _) Hm2.out.cap hhj (by omega)).mono ?_
          rintro e w5 ⟨A9,c9,rfl,hm9,hb9⟩
          have hbw:=Hb.out.trans ((Hbq.out.trans (hb9.mono Hbq.out.size)).mono Hb.out.size)
          have hm10:Made w5 w.heap.size 3 1 A9 (j+1) c9 ((L.take lo++x::L.drop lo).map sv):=⟨own_mono hm9.own (Nat.le_trans Hb.out.size Hbq.out.size),hm9.rd,hm9.cap,hm9.max⟩
          have Hbw:=lhd hbw
          have Hm10:=lhd hm10
          clear hbw hm10 hm9 hb9
          have e4:IntKind.i64.wrap ((x:Int) - 1)=(n:Int) -((j+1:Nat):Int):=by rw [IntKind.wrap_i64];have:=HxI.out;omega
          go_wp2_with fail
          go_roundw
          case rel=>exact ⟨j+1,_,A9,c9,by omega,rfl,rfl,by rw [show n+1 -(j+1)=x by have:=Hx.out;omega];exact Hput.out,Hm10.out,Hbw.out⟩
          case measure=>have:=Hx.out;simp [intOf];omega
  · obtain rfl:j=n+1:=by omega
    have hlast:¬(0:Int)≤(n:Int) -((n+1:Nat):Int):=by omega
    have hsuf:IsSuf (symL t) L:=⟨by
        have:=hpart.perm
        rw [show n+1 -(n+1)=0 by omega] at this
        rw [Hl.out,List.range_eq_range']
        exact this,hpart.sorted⟩
    have Hsuf:=lhd hsuf
    clear hsuf hpart hlt
    go_wp2_with fail
    go_ret
    exact ⟨A,c,L,rfl,Hsuf.out,Hmade.out,Hb.out⟩
end Go.Proofs.YtipaccakmndkgaaGreatDoor
