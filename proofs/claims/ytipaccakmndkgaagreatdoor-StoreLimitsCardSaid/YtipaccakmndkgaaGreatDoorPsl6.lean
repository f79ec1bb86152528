/- As 'Loose7', where the last operations wait for all the others: they come one behind the other. No conditions. What a whole number takes in memory. No conditions. The walks of arena.New, Live, and of Take on a fresh arena. No conditions. As 'Loose7' (one writer), where the last operation waits for all the others. No conditions. The walks of bits.Put and bits.Cut: a bit let in or out of a word. Conditions: a place below 64. Plain laws: a transform's runs, a snapshot's length. No conditions. The walks of sym.Is and run.Put. Condition: at most a million symbols. The walk of the tree's fix at a leaf that is the only node. Conditions: at most 128 bits. -/
import Derived.Test.YtipaccakmndkgaaGreatDoorPsl4
import Derived.Test.YtipaccakmndkgaaGreatDoorPsl5
import Derived.BigQuiet
import Derived.Deep.QuietTactic
import Derived.Test.YtipaccakmndkgaaGreatDoorPsl3
set_option linter.unusedVariables false
set_option linter.unusedSimpArgs false
set_option maxRecDepth 100000
set_option maxHeartbeats 4000000
namespace Go.Proofs.YtipaccakmndkgaaGreatDoor
open Go.RowKit Go
section
variable {P : Program} {ops : Array Oper} {Q : Exit → Act → World → Prop} {md : Region.Mode}
def firstN (n m:Nat):Array Bool:=((List.range m).map fun i=>decide (i < n)).toArray
theorem firstN_count (n m:Nat) (h:n≤m):(firstN n m).toList.count false=m - n:=by
 unfold firstN
 rw [List.toList_toArray]
 induction m with
 | zero=>simp
 | succ m ih=>
   rw [List.range_succ,List.map_append,List.count_append]
   rcases Nat.lt_or_ge m n with hm | hm
   · have:n=m+1:=by omega
     subst this
     have e:(List.map (fun i=>decide (i < m+1)) (List.range m)).count false=0:=by
        rw [List.count_eq_zero]
        intro hc
        obtain ⟨x,hx,h2⟩:=List.mem_map.1 hc
        have:=List.mem_range.1 hx
        simp at h2
        omega
     rw [e]
     simp
   · rw [ih hm]
     have:¬(m < n):=by omega
     simp [this]
     omega
theorem wpAny_all {f:Nat} {listed:Array Bool} {a:Act} {w:World} (hr:Region.ready md ops listed= []) (hq:Q .normal a w):wpAny P md ops Q f listed a w:=by
 cases f with
 | zero=>exact ⟨hr,hq⟩
 | succ f=>exact ⟨fun _=>hq,fun i hi=>by rw [hr] at hi;cases hi⟩
theorem wpAny_one {f:Nat} {listed:Array Bool} {a:Act} {w:World} {i:Nat} (hr:Region.ready md ops listed= [i]) (hq:wpOp P ops Q i (wpAny P md ops Q f (listed.setIfInBounds i true)) a w):wpAny P md ops Q (f+1) listed a w:=
 ⟨fun h=>(by rw [hr] at h;cases h),fun j hj=>(by rw [hr] at hj;cases List.mem_singleton.1 hj;exact hq)⟩
theorem wpAny_tail (n:Nat) (C:World→Prop) (S:Nat→World→World→Prop) (U:Nat→World→Prop) (V:Nat→Value→World→Prop) (a0:Act)
 (W0:World) (hn:n≤ops.size) (hlaid:laidB md ops a0.tmps.size=true) (htail:((List.range ops.size).all fun k=>decide (k < n)||(List.range n).all fun i=>upB md ops ops.size k i)=true) (hC0:C W0) (hU0:∀i,U i W0) (hC:∀j w w',j < n→C w→S j w w'→C w')
 (hU:∀i j w w',j < n→i≠j→upB md ops ops.size j i=false→U i w→C w→S j w w'→U i w')
 (hstab:∀i j v w w',j < n→i≠j→aftB md ops i j=false→V i v w→C w→S j w w'→V i v w')
 (hstep:∀j o,j < n→ops[j]?=some o→StepOk3 P ops Q md C S U V a0 j o)
 (hend:∀a w f,C w→a.tmps.size=a0.tmps.size→a.defers=a0.defers→
  (∀t,(∀(k:Nat) (p:Oper),k < n→ops[k]?=some p→p.dst≠some t)→a.tmps.getD t undef=a0.tmps.getD t undef)→
  (∀i o,i < n→ops[i]?=some o→∃v,(∀d,o.dst=some d→a.tmps.getD d undef=v)∧V i v w)→wpAny P md ops Q (ops.size - n+f) (firstN n ops.size) a w):
 wpAny P md ops Q ops.size (Array.replicate ops.size false) a0 W0:=by
 have none_ready:∀listed:Array Bool,listed.size=ops.size→Region.ready md ops listed= []→∀i,i < ops.size→listed.getD i false=true:=by
  intro listed hl hr i
  induction i using Nat.strongRecOn with
  | _ i ih=>
    intro hi
    cases hc:listed.getD i false with
    | true=>rfl
    | false=>
      exfalso
      have hm:i∈Region.ready md ops listed:=by
        refine mem_ready.2 ⟨?_,ops[i],Array.getElem?_eq_getElem hi,fun e he hb=>?_⟩
        · have hi':i < listed.size:=by omega
          simp [hi'] at hc⊢
          exact hc
        · have:=(laidB_at hlaid (Array.getElem?_eq_getElem hi)).1 e he hb
          exact ih e.on this (by omega)
      rw [hr] at hm
      cases hm
 have main:∀fuel listed a w,listed.size=ops.size→listed.toList.count false≤fuel→Loose7 md ops C U V a0 listed a w→(∀k,n≤k→listed.getD k false=false)→wpAny P md ops Q fuel listed a w:=by
  intro fuel
  induction fuel with
  | zero=>
    intro listed a w hl hc h ht0
    have hall:∀i,i < ops.size→listed.getD i false=true:=by
        intro i hi
        have hi':i < listed.size:=by omega
        cases hv:listed.getD i false with
        | true=>rfl
        | false=>
          exfalso
          have:false∈listed.toList:=by
           simp [hi'] at hv
           exact hv ▸(by simp)
          have:=List.count_pos_iff.2 this
          omega
    have hnn:n=ops.size:=by
        rcases Nat.lt_or_ge n ops.size with h1 | h1
        · have h2:=hall n h1
          rw [ht0 n (Nat.le_refl _)] at h2
          cases h2
        · omega
    have he:listed=firstN n ops.size:=by
        apply Array.ext
        · simp [firstN,hl]
        · intro i h1 h2
          have h3:=hall i (by omega)
          simp [h1] at h3
          simp [firstN,h3]
          omega
    have h3:=hend a w 0 h.world h.size h.defers (fun t ht=>h.old t fun k p hp hd=>absurd hd (ht k p (by have:=(Array.getElem?_eq_some_iff.1 hp).1;omega) hp)) fun i o hi ho=>h.val i o ho (hall i (Array.getElem?_eq_some_iff.1 ho).1)
    rw [←he,←hnn,Nat.sub_self] at h3
    exact h3
  | succ fuel ih=>
    intro listed a w hl hc h ht0
    by_cases hall:∀i,i < n→listed.getD i false=true
    · have he:listed=firstN n ops.size:=by
       apply Array.ext
       · simp [firstN,hl]
       · intro i h1 h2
         rcases Nat.lt_or_ge i n with h4 | h4
         · have h3:=hall i h4
           simp [h1] at h3
           simp [firstN,h3]
           exact h4
         · have h3:=ht0 i h4
           simp [h1] at h3
           simp [firstN,h3]
           omega
      have hcount:ops.size - n≤fuel+1:=by rw [he,firstN_count _ _ hn] at hc;exact hc
      have h3:=hend a w (fuel+1 -(ops.size - n)) h.world h.size h.defers (fun t ht=>h.old t fun k p hp hd=>by
       rcases Nat.lt_or_ge k n with h4 | h4
       · exact absurd hd (ht k p h4 hp)
       · exact ht0 k h4) fun i o hi ho=>h.val i o ho (hall i hi)
      rw [←he,show ops.size - n+(fuel+1 -(ops.size - n))=fuel+1 by omega] at h3
      exact h3
    refine ⟨fun hr=>absurd (fun i hi=>none_ready listed hl hr i (by omega)) hall,fun j hj=>?_⟩
    obtain ⟨h0,o,ho,haft⟩:=mem_ready.1 hj
    have hlt:j < ops.size:=(Array.getElem?_eq_some_iff.1 ho).1
    have hjl:j < listed.size:=by omega
    have h0':listed.getD j false=false:=by simp [hjl] at h0⊢;exact h0
    have hjn:j < n:=by
        rcases Nat.lt_or_ge j n with h4 | h4
        · exact h4
        · exfalso
          refine hall fun i hi=>?_
          have h5:=List.all_eq_true.1 htail j (List.mem_range.2 hlt)
          have h6:¬(j < n):=by omega
          simp only [h6,decide_false,Bool.false_or] at h5
          exact upB_listed h.shut _ j i o ho haft (List.all_eq_true.1 h5 i (List.mem_range.2 hi))
    refine hstep j o hjn ho a w h.world (h.pre j o ho h0') h.size h.defers (fun t ht=>h.old t fun k p hp hd=>?_) (fun e he hb p d hp hd=>by obtain ⟨v,h1,h2⟩:=h.val e.on p hp (haft e he hb);rw [h1 d hd];exact h2) _ fun v w' hS hV=>?_
    · rcases oldB_at ht hp hd with rfl |⟨e,he,hb,heq⟩
      · exact h0'
      · cases hk:listed.getD k false with
        | false=>rfl
        | true=>
          have:=h.shut k p hp hk e he hb
          rw [heq,h0'] at this
          cases this
    · refine ih _ _ _ (by simpa using hl) ?_ ?_ (fun k hk=>by rw [getD_set_ne false (by omega:j≠k)];exact ht0 k hk)
      · have hv:listed.toList[j]'(by simpa using hjl)=false:=by simp [hjl] at h0'⊢;exact h0'
        rw [Array.toList_setIfInBounds,List.count_set (by simpa using hjl),hv]
        simp
        have hm:false∈listed.toList:=hv ▸ List.getElem_mem _
        have:=List.count_pos_iff.2 hm
        rw [←Array.count_toList]
        omega
      · have hsz:(a.put o.dst v).tmps.size=a0.tmps.size:=by
          rw [←h.size]
          cases o.dst with
          | none=>rfl
          | some d=>simp [Act.put]
        refine ⟨hC j w w' hjn h.world hS,fun i p hp hi=>?_,hsz,?_,fun t ht=>?_,fun i p hp hi=>?_,fun k p hp hk e he hb=>?_⟩
        · have hji:i≠j:=fun e=>by
           rw [e,getD_set_same _ _ hjl] at hi
           cases hi
          rw [getD_set_ne false hji.symm] at hi
          refine hU i j w w' hjn hji ?_ (h.pre i p hp hi) h.world hS
          cases hup:upB md ops ops.size j i with
          | false=>rfl
          | true=>
            have:=upB_listed h.shut _ j i o ho haft hup
            rw [hi] at this
            cases this
        · rw [←h.defers]
          cases o.dst <;> rfl
        · have hne:o.dst≠some t:=fun hd=>by
           have:=ht j o ho hd
           rw [getD_set_same _ _ hjl] at this
           cases this
          have hold:=h.old t fun k p hp hd=>by
           have:=ht k p hp hd
           cases hk:listed.getD k false with
           | false=>rfl
           | true=>
             by_cases hjk:j=k
             · subst hjk;rw [h0'] at hk;cases hk
             · rw [getD_set_ne false hjk,hk] at this;cases this
          rw [←hold]
          cases hod:o.dst with
          | none=>rfl
          | some d=>
            have hdt:d≠t:=fun h=>hne (by rw [hod,h])
            simp [Act.put,Array.getD_eq_getD_getElem?,hdt]
        · rcases getD_set_or _ _ _ hi with rfl | hi1
          · rw [ho] at hp
            injection hp with hp
            subst hp
            refine ⟨v,fun d hd=>?_,hV⟩
            have hdl:=((laidB_at hlaid ho).2 d hd).1
            rw [hd]
            have:d < a.tmps.size:=by rw [h.size];exact hdl
            simp [Act.put,Array.getD_eq_getD_getElem?,this]
          · by_cases hij:i=j
            · subst hij;rw [h0'] at hi1;cases hi1
            obtain ⟨u,hu,hv⟩:=h.val i p hp hi1
            have haf:aftB md ops i j=false:=by
              cases hc:aftB md ops i j with
              | false=>rfl
              | true=>
                exfalso
                unfold aftB at hc
                rw [hp] at hc
                obtain ⟨e,he,h2⟩:=List.any_eq_true.1 hc
                simp only [Bool.and_eq_true,beq_iff_eq] at h2
                have:=h.shut i p hp hi1 e (Array.mem_toList_iff.1 he) h2.1
                rw [h2.2,h0'] at this
                cases this
            refine ⟨u,fun d hd=>?_,hstab _ _ _ _ _ hjn hij haf hv h.world hS⟩
            rw [←hu d hd]
            cases hod:o.dst with
            | none=>rfl
            | some d'=>
              have hdt:d'≠d:=fun h=>hij (((laidB_at hlaid ho).2 d' hod).2 i p hp (h ▸ hd))
              simp [Act.put,Array.getD_eq_getD_getElem?,hdt]
        · rcases getD_set_or _ _ _ hk with rfl | hk
          · rw [ho] at hp
            injection hp with hp
            subst hp
            have h1:=haft e he hb
            by_cases hje:k=e.on
            · rw [←hje];exact getD_set_same _ _ hjl _
            · rw [getD_set_ne false hje];exact h1
          · have h1:=h.shut k p hp hk e he hb
            by_cases hje:j=e.on
            · rw [←hje];exact getD_set_same _ _ hjl _
            · rw [getD_set_ne false hje];exact h1
 refine main _ _ _ _ (by simp) (by simp) ⟨hC0,fun j _ _ _=>hU0 j,rfl,rfl,fun _ _=>rfl,fun i o ho hi=>?_,fun k p hp hk=>?_⟩ (fun k hk=>by
  rw [Array.getD_eq_getD_getElem?]
  rcases Nat.lt_or_ge k ops.size with h | h
  · simp [h]
  · rw [Array.getElem?_eq_none (by simpa using h)]
    rfl)
 · have hlt:i < ops.size:=(Array.getElem?_eq_some_iff.1 ho).1
   simp [hlt] at hi
 · have hlt:k < ops.size:=(Array.getElem?_eq_some_iff.1 hp).1
   simp [hlt] at hk
theorem wpAny_tail2 (n:Nat) (ds:List Nat) (C:World→Prop) (S:Nat→World→World→Prop) (U:Nat→World→Prop) (V:Nat→Value→World→Prop) (a0:Act)
 (W0:World) (hds:(ops.toList.take n).filterMap (·.dst)=ds) (hn:n≤ops.size) (hlaid:laidB md ops a0.tmps.size=true) (htail:((List.range ops.size).all fun k=>decide (k < n)||(List.range n).all fun i=>upB md ops ops.size k i)=true) (hC0:C W0) (hU0:∀i,U i W0) (hC:∀j w w',j < n→C w→S j w w'→C w')
 (hU:∀i j w w',j < n→i≠j→upB md ops ops.size j i=false→U i w→C w→S j w w'→U i w')
 (hstab:∀i j v w w',j < n→i≠j→aftB md ops i j=false→V i v w→C w→S j w w'→V i v w')
 (hstep:∀j o,j < n→ops[j]?=some o→StepOk3 P ops Q md C S U V a0 j o)
 (hend:∀(ev:Operand→Value) w f,C w→(∀i d,i < n→((ops[i]?).bind (·.dst))=some d→V i (ev (.tmp d)) w)→wpAny P md ops Q (ops.size - n+f) (firstN n ops.size) (putsOf ev ds a0) w):
 wpAny P md ops Q ops.size (Array.replicate ops.size false) a0 W0:=by
 refine wpAny_tail n C S U V a0 W0 hn hlaid htail hC0 hU0 hC hU hstab hstep fun a w f hS hsz hdf hold hval=>?_
 have h1:=hend a.eval w f hS fun i d hi hd=>by
  cases ho:ops[i]? with
  | none=>rw [ho] at hd;cases hd
  | some o=>
    rw [ho] at hd
    obtain ⟨v,h1,h2⟩:=hval i o hi ho
    have:=h1 d hd
    change V i (a.tmps.getD d undef) w
    rw [this]
    exact h2
 rw [←act_puts a a0 ds hsz hdf fun t ht=>hold t fun k p hk hp hd=>ht ?_] at h1
 · exact h1
 · rw [←hds]
   refine List.mem_filterMap.2 ⟨p,?_,hd⟩
   have hk2:(ops.toList.take n)[k]?=some p:=by
    rw [List.getElem?_take,if_pos hk,Array.getElem?_toList]
    exact hp
   exact List.mem_of_getElem? hk2
theorem wpOp_run {j:Nat} {o:Oper} {a:Act} {w:World} {K:Act→World→Prop} (ho:ops[j]?=some o) (hg:o.guard=none) (h:Oper.upon P o a K Q ((execOp a.eval o).run P w)):wpOp P ops Q j K a w:=by
 unfold wpOp
 simp only [ho]
 have hw:Region.wanted o (yielded ops a.tmps)=true:=by unfold Region.wanted;rw [hg]
 rw [if_pos hw]
 exact .inl h
end
end Go.Proofs.YtipaccakmndkgaaGreatDoor
namespace Go.Proofs.YtipaccakmndkgaaGreatDoor
theorem run_int_info:(Tryz.prog.info? 3).map (fun i=>(i.zero,i.size,i.bytes))=some (some (.int .i64 0),1,8):=by kernel_rfl
end Go.Proofs.YtipaccakmndkgaaGreatDoor
namespace Go.Proofs.YtipaccakmndkgaaGreatDoor
open Go.RowKit
theorem bool_info:(Tryz.prog.info? 4).map (fun i=>(i.zero,i.size,i.bytes))=some (some (.bool false),1,1):=by kernel_rfl
theorem ArenaNew_any (w:World):
 Calls Tryz.prog 114 #[.int .i64 268435456] w fun e w'=>e=.returned (.pointer (some ⟨w.heap.size,0,none⟩))∧Bk w' w.heap.size 217 #[.slice none 0 0,.slice none 0 0,.int .i64 268435456]∧Below w.heap.size w w':=by
 go_enter Tryz.func114,Tryz.ntmps114
 go_wp2
 go_ret
 exact ⟨rfl,Bk.new _ _ _,(Below.refl _ _).alloc (Nat.le_refl _) _⟩
theorem ArenaLive0 (ga:Nat) (w:World) (hb:Bk w ga 217 #[.slice none 0 0,.slice none 0 0,.int .i64 268435456]):
 Calls Tryz.prog 188 #[.pointer (some ⟨ga,0,none⟩)] w fun e w'=>e=.returned (.int .i64 0)∧Below w.heap.size w w':=by
 have c0:w.cell? ⟨ga,0,none⟩=some (.slice none 0 0):=(hb.cell 0).trans rfl
 have c1:w.cell? ⟨ga,1,none⟩=some (.slice none 0 0):=(hb.cell 1).trans rfl
 go_enter Tryz.func188,Tryz.ntmps188
 go_wp2
 go_quiet (fail)
 go_wp2
 go_ret
 exact ⟨rfl,below_drewN (Below.refl _ _) _⟩
theorem rd_one {w:World} {g:Nat} {e:TypeId} {v:Value} (h:Bk w g e #[v]):Rd w w.heap.size 1 (some ⟨g,0,none⟩) 1 [v]:=by
 refine ⟨rfl,fun _=>⟨g,0,rfl,h.lt,fun i u hu=>?_⟩⟩
 rw [Nat.zero_add,h.cell i]
 rcases i with _ | i
 · exact hu
 · simp at hu
theorem Take_first (ga:Nat) (w:World) (hb:Bk w ga 217 #[.slice none 0 0,.slice none 0 0,.int .i64 268435456]):
 Calls Tryz.prog 122 #[.pointer (some ⟨ga,0,none⟩)] w fun e w'=>e=.returned (.tuple #[.int .i64 0,.int .i64 0])∧Keep (fun b=>b=ga) w w'∧∃A c,Bk w' ga 217 #[.slice A 1 c,.slice none 0 0,.int .i64 268435456]∧Made w' w.heap.size 4 1 A 1 c [.bool true]:=by
 obtain ⟨i0,hi0,hz0,hz1,hz2⟩:=info_parts bool_info
 have hgl:=hb.lt
 have Hb:=lhd hb
 have HW:=lhd (Below.refl w.heap.size w)
 clear hb
 go_enter Tryz.func122,Tryz.ntmps122
 go_wp2
 refine wp_region_any (by kernel_rfl) ?_
 refine wpAny_loose2 [10,11,12,13,14,15,16,9] Grow (Vs [is (.pointer (some ⟨ga,0,none⟩)),is (.int .i64 0),is (.pointer (some ⟨ga,0,none⟩)),is (.pointer (some ⟨ga,0,none⟩)),is (.pointer (some ⟨ga,2,none⟩)),is (.int .i64 268435456),is (.bool false),is (.bool false)]) _ _ rfl (by kernel_rfl) (Below.refl _ _) (fun _ _=>Grow.trans) (stb_all (by repeat' (first | exact stb_is _ | exact stb_row _ _ _ |(refine List.forall_mem_cons.2 ⟨?_,?_⟩)|(intro p hp;cases hp)))) ?_ ?_
 · refine steps_of ?_
   refine steps_cons (step_on rfl rfl fun ev _ _ _ _ hold _ _ _ _ hK=>?_) ?_
   · have e0:ev (.tmp 0)=.pointer (some ⟨ga,0,none⟩):=hold 0 (by kernel_rfl)
     go_simp
     exact hK _ _ (Below.refl _ _) rfl
   refine steps_cons (step_on rfl rfl fun _ w5 hS _ _ _ hval _ _ _ hK=>?_) ?_
   · have e10:_=_:=hval 0 10 (by kernel_rfl) rfl
     replace hS:Grow w w5:=⟨hS.os,hS.tape,hS.output,hS.size,hS.block⟩
     go_simp
     refine (ArenaLive0 ga w5 (Hb.out.below hS Hb.out.lt)).mono ?_
     rintro e w8 ⟨rfl,hb8⟩
     exact hK _ _ hb8 rfl
   refine steps_cons (step_on rfl rfl fun ev _ _ _ _ hold _ _ _ _ hK=>?_) ?_
   · have e0:ev (.tmp 0)=.pointer (some ⟨ga,0,none⟩):=hold 0 (by kernel_rfl)
     go_simp
     exact hK _ _ (Below.refl _ _) rfl
   refine steps_cons (step_on rfl rfl fun _ _ _ _ _ _ hval _ _ _ hK=>?_) ?_
   · have e12:_=_:=hval 2 12 (by kernel_rfl) rfl
     go_simp
     exact hK _ _ (Below.refl _ _) rfl
   refine steps_cons (step_on rfl rfl fun _ _ _ _ _ _ hval _ _ _ hK=>?_) ?_
   · have e13:_=_:=hval 3 13 (by kernel_rfl) rfl
     go_simp
     exact hK _ _ (Below.refl _ _) rfl
   refine steps_cons (step_on rfl rfl fun _ w5 hS _ _ _ hval _ _ _ hK=>?_) ?_
   · have e14:_=_:=hval 4 14 (by kernel_rfl) rfl
     replace hS:Grow w w5:=⟨hS.os,hS.tape,hS.output,hS.size,hS.block⟩
     have c15:w5.cell? ⟨ga,2,none⟩=some (.int .i64 268435456):=((Hb.out.below hS Hb.out.lt).cell 2).trans rfl
     go_simp
     exact hK _ _ (Below.refl _ _) rfl
   refine steps_cons (step_on rfl rfl fun _ _ _ _ _ _ hval _ _ _ hK=>?_) ?_
   · have e11:_=_:=hval 1 11 (by kernel_rfl) rfl
     have e15:_=_:=hval 5 15 (by kernel_rfl) rfl
     go_simp
     exact hK _ _ (Below.refl _ _) rfl
   refine steps_cons (step_on rfl rfl fun _ _ _ _ _ _ hval _ _ _ hK=>?_) ?_
   · have e16:_=_:=hval 6 16 (by kernel_rfl) rfl
     go_simp
     exact hK _ _ (Below.refl _ _) rfl
   exact steps_nil
 · intro ev w6 hS hval
   replace hS:Grow w w6:=⟨hS.os,hS.tape,hS.output,hS.size,hS.block⟩
   have e9:ev (.tmp 9)=.bool false:=hval 7 9 rfl
   simp only [putsOf,List.foldl_cons,List.foldl_nil,Act.put,List.setIfInBounds_toArray,List.set_cons_zero,List.set_cons_succ]
   rw [e9]
   clear hval
   have Hb2:=lhd (Hb.out.below hS Hb.out.lt)
   have hsz2:=Below.size hS
   have HS2:=lhd hS
   have c1:w6.cell? ⟨ga,1,none⟩=some (.slice none 0 0):=(Hb2.out.cell 1).trans rfl
   clear hS
   have c0:w6.cell? ⟨ga,0,none⟩=some (.slice none 0 0):=(Hb2.out.cell 0).trans rfl
   have f0:=Hb2.out.frozen 0
   have hga6:ga < w6.heap.size:=by omega
   revert Hb2 hsz2 c0 c1 f0 HS2 hga6
   generalize w6=W2
   intro Hb2 hsz2 HS2 c1 c0 f0 hga6
   have a0:=(World.cell?_alloc_lt W2 (Obj.cells #[.bool true] 4) ⟨ga,0,none⟩ hga6).trans c0
   go_wp2_with (at_builtin;refine wpList_push _ rfl (.tmp 53) (.tmp 54) _ rfl w.heap.size 4 i0 (.bool false) 1 1 Tryz.underlying209 hi0 hz0 hz1 hz2 rfl (by decide) (.slice none 0 0) 0 [] rfl (World.ownsRow_nil _ _ _ _) rfl rfl (by simp [Value.oneCell']) (by unfold maxLen;omega) (by omega) hsz2 ?_;intro v5 w5 hown5 hg5 hs5 hat5;rw [Nat.zero_add,List.nil_append] at hown5;obtain ⟨A9,c9,rfl,hm9⟩:=made_of_own hown5;have hB5:Below W2.heap.size W2 w5:=⟨hg5.os,hg5.tape,hg5.output,hg5.size,fun k hk=>hg5.block k hk (by simp [Value.ownBlock])⟩;have hb5:=Hb2.out.below hB5 hga6;have d0:w5.cell? ⟨ga,0,none⟩=some (.slice none 0 0):=(hb5.cell 0).trans rfl;have e0:=hb5.frozen 0)
   go_ret2
   have hset:=Keep.setCell (F:=fun b=>b=ga) (Keep.refl (fun b=>b=ga) w5) (p:=⟨ga,0,none⟩) (.inl rfl) (.slice A9 1 c9)
   exact ⟨rfl,((Keep.of_below HS2.out).trans (Keep.of_below hB5)).trans hset,A9,c9,hb5.set 0 _,(hm9.mono (by omega)).keepF hset (fun b hb=>by subst hb;exact hgl)⟩
end Go.Proofs.YtipaccakmndkgaaGreatDoor
namespace Go.Proofs.YtipaccakmndkgaaGreatDoor
open Go.RowKit Go
theorem wpAny_keep_tail {P:Program} {ops:Array Oper} {Q:Exit→Act→World→Prop} {md:Region.Mode} (n:Nat) (ds:List Nat) (F:Nat→Prop) (J:Nat) (rd:List Nat) (pre:World→Prop) (pJ:Value→World→Prop) (l:List (Value→World→Prop)) (a0:Act) (W0:World)
 (hds:(ops.toList.take n).filterMap (·.dst)=ds) (hn:n≤ops.size) (hlaid:laidB md ops a0.tmps.size=true) (htail:((List.range ops.size).all fun k=>decide (k < n)||(List.range n).all fun i=>upB md ops ops.size k i)=true)
 (hrd:(rd.all fun i=>i==J||upB md ops ops.size J i)=true)
 (hp0:pre W0) (hp:∀w w',pre w→Keep F W0 w→Grow w w'→pre w') (hJ:Stb pJ) (hst:∀p∈l,StbK F p)
 (hstep:∀j o,j < n→ops[j]?=some o→StepOk3 P ops Q md (Keep F W0) (KStep F J) (fun i w=>rd.contains i=true→pre w) (VsJ J pJ l) a0 j o)
 (hend:∀(ev:Operand→Value) w f,Keep F W0 w→(∀i d,i < n→((ops[i]?).bind (·.dst))=some d→VsJ J pJ l i (ev (.tmp d)) w)→wpAny P md ops Q (ops.size - n+f) (firstN n ops.size) (putsOf ev ds a0) w):
 wpAny P md ops Q ops.size (Array.replicate ops.size false) a0 W0:=by
 refine wpAny_tail2 n ds (Keep F W0) (KStep F J) (fun i w=>rd.contains i=true→pre w) (VsJ J pJ l) a0 W0 hds hn hlaid htail (Keep.refl _ _) (fun _ _=>hp0) (fun j w w' _ h k=>h.trans (kstep_any k)) (fun i j w w' _ hij hup hi hC k hir=>?_) (fun i j v w w' _ hij _ hv _ k=>?_) hstep hend
 · by_cases hj:j=J
   · exfalso
     subst hj
     have h2:=List.all_eq_true.1 hrd i (by simpa using hir)
     simp only [hup,Bool.or_false,beq_iff_eq] at h2
     exact hij h2
   · exact hp w w' (hi hir) hC (k.2 hj)
 · unfold VsJ at hv⊢
   by_cases hi:i=J
   · rw [if_pos hi] at hv⊢
     exact hJ v w w' hv (k.2 fun e=>hij (hi.trans e.symm))
   · rw [if_neg hi] at hv⊢
     exact stbk_all hst i v w w' hv (kstep_any k)
theorem steps_of_n {n:Nat} {T:Nat→Oper→Prop} {l:List Oper} (h:∀j p,(l.take n)[j]?=some p→T (0+j) p):∀j p,j < n→l.toArray[j]?=some p→T j p:=by
 intro j p hj hp
 have:=h j p (by rw [List.getElem?_take,if_pos hj];simpa using hp)
 rwa [Nat.zero_add] at this
end Go.Proofs.YtipaccakmndkgaaGreatDoor
namespace Go.Proofs.YtipaccakmndkgaaGreatDoor
open Go.RowKit
theorem andnot64 (a b:Nat) (ha:a < 18446744073709551616) (hb:b < 18446744073709551616):bits .andNot .u64 (a:Int) (b:Int)=((a&&&(18446744073709551615 - b):Nat):Int):=by
 have ha':a % 2 ^ 64=a:=Nat.mod_eq_of_lt (by omega)
 have hb':b % 2 ^ 64=b:=Nat.mod_eq_of_lt (by omega)
 have hlt:a&&&(18446744073709551615 - b) < 2 ^ 64:=Nat.and_lt_two_pow _ (by omega)
 show IntKind.u64.wrap (((BitVec.ofInt 64 (a:Int)&&& ~~~ BitVec.ofInt 64 (b:Int)).toNat:Nat):Int)=_
 rw [BitVec.ofInt_natCast,BitVec.ofInt_natCast,BitVec.toNat_and,BitVec.toNat_not,BitVec.toNat_ofNat,BitVec.toNat_ofNat,ha',hb',IntKind.wrap_u64,show 2 ^ 64 - 1 - b=18446744073709551615 - b by omega]
 omega
theorem or_lt64 {a b:Nat} (ha:a < 18446744073709551616) (hb:b < 18446744073709551616):a||| b < 18446744073709551616:=Nat.or_lt_two_pow (n:=64) ha hb
theorem and_lt64 (a:Nat) {b:Nat} (hb:b < 18446744073709551616):a&&& b < 18446744073709551616:=Nat.and_lt_two_pow (n:=64) a hb
theorem lowN_k (x k:Nat) (hk:k < 64):lowN x (k:Int)=x % 2 ^ k:=by
 unfold lowN
 rw [show min ((k:Int)).toNat 64=k by omega]
theorem BPut_any (x k:Nat) (b:Bool) (hx:x < 18446744073709551616) (hk:k < 64) (w:World):
 Calls Tryz.prog 286 #[.int .u64 (x:Int),.int .i64 (k:Int),.bool b] w fun e w'=>e=.returned (.tuple #[.int .u64 ((putN x k b:Nat):Int),.bool (x.testBit 63)])∧w=w':=by
 have hlow:=lowN_k x k hk
 obtain ⟨a,ha⟩:∃a,x % 2 ^ k=a:=⟨_,rfl⟩
 have hal:a < 18446744073709551616:=by rw [←ha];exact low_lt x k hx
 obtain ⟨q,hq⟩:∃q,2 ^ k=q:=⟨_,rfl⟩
 have hql:q < 18446744073709551616:=by
  rw [←hq]
  exact Nat.pow_lt_pow_right (a:=2) (by decide) (show k < 64 from hk)
 have hqI:(2:Int)^ k=(q:Int):=by rw [←hq];push_cast;rfl
 obtain ⟨c,hc⟩:∃c,(if b then q else 0:Nat)=c:=⟨_,rfl⟩
 have hcl:c < 18446744073709551616:=by rw [←hc];split <;> omega
 have h1:IntKind.u64.wrap (q:Int)=(q:Int):=by rw [IntKind.wrap_u64];omega
 have h2:=or64 a c hal hcl
 obtain ⟨n1,hn1⟩:∃n,a||| c=n:=⟨_,rfl⟩
 have hn1l:n1 < 18446744073709551616:=by rw [←hn1];exact or_lt64 hal hcl
 have h3:=andnot64 x a hx hal
 obtain ⟨n2,hn2⟩:∃n,x&&&(18446744073709551615 - a)=n:=⟨_,rfl⟩
 have hn2l:n2 < 18446744073709551616:=by rw [←hn2];exact and_lt64 _ (by omega)
 obtain ⟨n3,hn3⟩:∃n,n2*2 % 18446744073709551616=n:=⟨_,rfl⟩
 have hn3l:n3 < 18446744073709551616:=by omega
 have h4:IntKind.u64.wrap ((n2:Int)*2)=(n3:Int):=by rw [IntKind.wrap_u64];omega
 have h5:=or64 n1 n3 hn1l hn3l
 have hfin:putN x k b=n1||| n3:=by
  unfold putN
  rw [ha,hq,hc,hn1,hn2,hn3]
 have htop:((x:Int)/ 9223372036854775808==1)=x.testBit 63:=by
  rw [←top_bit x hx,Bool.eq_iff_iff,beq_iff_eq,decide_eq_true_eq]
  omega
 rw [hn1] at h2
 rw [hn2] at h3
 rw [hfin,←htop]
 have hk0:decide ((k:Int) < 0)=false:=by simp
 have hk1:¬((k:Int)≥64):=by omega
 have Hlow:=lhd (hlow.trans ha)
 clear hfin htop hlow ha hq hn1 hn2 hn3
 go_enter Tryz.func286,Tryz.ntmps286
 go_wp2_with fail
 refine (low_any x (k:Int) hx (by omega) _).mono ?_
 rintro e w1 ⟨rfl,rfl⟩
 rw [Hlow.out]
 cases b with
 | true=>
   rw [if_pos rfl] at hc
   subst hc
   go_wp2_with fail
   go_ret2
   exact ⟨rfl,rfl⟩
 | false=>
   rw [if_neg (by simp)] at hc
   subst hc
   have h2':bits .or .u64 (a:Int) 0=(n1:Int):=h2
   go_wp2_with fail
   go_ret2
   exact ⟨by rw [←h5];rfl,rfl⟩
theorem BCut_any (x k:Nat) (b:Bool) (hx:x < 18446744073709551616) (hk:k < 64) (w:World):
 Calls Tryz.prog 293 #[.int .u64 (x:Int),.int .i64 (k:Int),.bool b] w fun e w'=>e=.returned (.tuple #[.int .u64 ((cutN x k b:Nat):Int),.bool (x.testBit k)])∧w=w':=by
 have hlow:=lowN_k x k hk
 have hlow2:=lowN_k (x / 2) k hk
 obtain ⟨a,ha⟩:∃a,x % 2 ^ k=a:=⟨_,rfl⟩
 have hal:a < 18446744073709551616:=by rw [←ha];exact low_lt x k hx
 have hx2:x / 2 < 18446744073709551616:=by omega
 obtain ⟨a2,ha2⟩:∃a,x / 2 % 2 ^ k=a:=⟨_,rfl⟩
 have hal2:a2 < 18446744073709551616:=by rw [←ha2];exact low_lt _ k hx2
 obtain ⟨y,hy⟩:∃y,x / 2=y:=⟨_,rfl⟩
 have hyI:(x:Int)/ 2=(y:Int):=by omega
 have hyl:y < 18446744073709551616:=by omega
 obtain ⟨c,hc⟩:∃c,(if b then 9223372036854775808 else 0:Nat)=c:=⟨_,rfl⟩
 have hcl:c < 18446744073709551616:=by rw [←hc];split <;> omega
 have h3:=andnot64 y a2 hyl hal2
 obtain ⟨n2,hn2⟩:∃n,y&&&(18446744073709551615 - a2)=n:=⟨_,rfl⟩
 have hn2l:n2 < 18446744073709551616:=by rw [←hn2];exact and_lt64 _ (by omega)
 have h2:=or64 a n2 hal hn2l
 obtain ⟨n1,hn1⟩:∃n,a||| n2=n:=⟨_,rfl⟩
 have hn1l:n1 < 18446744073709551616:=by rw [←hn1];exact or_lt64 hal hn2l
 have h5:=or64 n1 c hn1l hcl
 have hfin:cutN x k b=n1||| c:=by
  unfold cutN
  rw [ha,hy,hc]
  rw [hy] at ha2
  rw [ha2,hn2,hn1]
 obtain ⟨d,hd⟩:∃d,x / 2 ^ k=d:=⟨_,rfl⟩
 have hdI:(x:Int)/ 2 ^ k=(d:Int):=by rw [←hd];push_cast;rfl
 have hdl:d < 18446744073709551616:=by rw [←hd];exact Nat.lt_of_le_of_lt (Nat.div_le_self _ _) hx
 have h6:bits .and .u64 (d:Int) 1=((d&&& 1:Nat):Int):=(bits_nat .u64 64 (by decide) (fun n h0 h1=>by rw [IntKind.wrap_u64];omega) d 1 (by omega) (by decide)).1
 have htop:(((d&&& 1:Nat):Int)==1)=x.testBit k:=by
  rw [Nat.testBit_eq_decide_div_mod_eq,hd,Nat.and_one_is_mod,Bool.eq_iff_iff,beq_iff_eq,decide_eq_true_eq]
  omega
 obtain ⟨d1,hd1⟩:∃z,d&&& 1=z:=⟨_,rfl⟩
 rw [hd1] at h6 htop
 rw [hn1] at h2
 rw [hn2] at h3
 rw [hfin,←htop]
 have hk0:decide ((k:Int) < 0)=false:=by simp
 have hk1:¬((k:Int)≥64):=by omega
 rw [hy] at hlow2 ha2
 have Hlow:=lhd (hlow.trans ha)
 have Hlow2:=lhd (hlow2.trans ha2)
 clear hfin htop hlow hlow2 ha ha2 hy hn1 hn2 hd hd1
 go_enter Tryz.func293,Tryz.ntmps293
 go_wp2_with fail
 refine (low_any x (k:Int) hx (by omega) _).mono ?_
 rintro e w1 ⟨rfl,rfl⟩
 rw [Hlow.out]
 cases b with
 | true=>
   rw [if_pos rfl] at hc
   subst hc
   have h5':bits .or .u64 (n1:Int) 9223372036854775808=((n1||| 9223372036854775808:Nat):Int):=h5
   go_wp2_with fail
   refine (low_any y (k:Int) hyl (by omega) _).mono ?_
   rintro e w1 ⟨rfl,rfl⟩
   rw [Hlow2.out]
   go_wp2_with fail
   go_ret2
   exact ⟨rfl,rfl⟩
 | false=>
   rw [if_neg (by simp)] at hc
   subst hc
   have h5':bits .or .u64 (n1:Int) 0=((n1||| 0:Nat):Int):=h5
   go_wp2_with fail
   refine (low_any y (k:Int) hyl (by omega) _).mono ?_
   rintro e w1 ⟨rfl,rfl⟩
   rw [Hlow2.out]
   go_wp2_with fail
   go_ret2
   exact ⟨by rw [Nat.or_zero];rfl,rfl⟩
end Go.Proofs.YtipaccakmndkgaaGreatDoor
namespace Go.Proofs.YtipaccakmndkgaaGreatDoor
theorem sruns_mem (m:List Int) (x:Int×Nat) (h:x∈runsOf m):x.1∈m:=by
 have h1:=(runsOf_ok m).1 x h
 have h2:x.1∈expand (runsOf m):=List.mem_flatMap.2 ⟨x,h,List.mem_replicate.2 ⟨by omega,rfl⟩⟩
 rwa [expand_runs] at h2
theorem symsI_ok {L:List Nat} (h:∀x∈L,x < 257):∀x∈runsOf (symsI L),symOk x.1:=by
 intro x hx
 obtain ⟨y,hy,e⟩:=List.mem_map.1 (sruns_mem _ x hx)
 have:=h y hy
 unfold symOk
 omega
theorem symsI_len (L:List Nat):(symsI L).length=L.length:=by simp [symsI]
theorem firstB_put {L:List Nat} (h:∀x∈L,x < 257):putRuns (symsI L)=some (firstB L):=by
 unfold putRuns
 rw [if_pos (symsI_ok h)]
 rfl
theorem firstB_len (L:List Nat):(firstB L).length≤11+22*L.length:=by
 unfold firstB
 have h1:=flatRun_len (runsOf (symsI L))
 have h2:=runsOf_len (symsI L)
 have h3:=encB_len (runsOf (symsI L)).length
 rw [symsI_len] at h2
 have e:runBytes (runsOf (symsI L))=encB (runsOf (symsI L)).length++(runsOf (symsI L)).flatMap runByte:=by simp [runBytes]
 rw [e,List.length_append]
 omega
def secK (rs:List Nat) (rate k:Nat):List UInt8:=(List.range k).flatMap fun k=>encB (rs.idxOf (k*rate))
theorem secK_succ (rs:List Nat) (rate k:Nat):secK rs rate (k+1)=secK rs rate k++encB (rs.idxOf (k*rate)):=by
 unfold secK
 rw [List.range_succ,List.flatMap_append]
 simp
theorem secK_len (rs:List Nat) (rate k:Nat):(secK rs rate k).length≤11*k:=by
 induction k with
 | zero=>simp [secK]
 | succ k ih=>
   rw [secK_succ,List.length_append]
   have:=encB_len (rs.idxOf (k*rate))
   omega
theorem secB_eq (rs:List Nat) (rate N:Nat):secB rs rate N=secK rs rate (N / rate+1):=rfl
theorem secK_ge (rs:List Nat) (rate k:Nat):k≤(secK rs rate k).length:=by
 induction k with
 | zero=>simp
 | succ k ih=>
   rw [secK_succ,List.length_append]
   have:=encB_pos (rs.idxOf (k*rate))
   omega
theorem last_k {k rate N:Nat} (hr:1≤rate) (hk:k≤N / rate+1) (h:¬k*rate≤N):k=N / rate+1:=by
 have h1:N / rate < k:=(Nat.div_lt_iff_lt_mul (by omega)).2 (by omega)
 omega
theorem next_k {k rate N:Nat} (hr:1≤rate) (h:k*rate≤N):k+1≤N / rate+1:=by
 have:=(Nat.le_div_iff_mul_le (by omega)).2 h
 omega
end Go.Proofs.YtipaccakmndkgaaGreatDoor
namespace Go.Proofs.YtipaccakmndkgaaGreatDoor
open Go.RowKit
theorem symIs_yes (s:Int) (w:World) (h:symOk s):Calls Tryz.prog 152 #[.int .i64 s] w fun e w'=>e=.returned (.bool true)∧w=w':=by
 obtain ⟨h1,h2⟩:=h
 go_enter Tryz.func152,Tryz.ntmps152
 go_wp2
 go_ret
 exact ⟨ret_bool (by simp <;> omega),rfl⟩
theorem symIs_no (s:Int) (w:World) (h:¬symOk s):Calls Tryz.prog 152 #[.int .i64 s] w fun e w'=>e=.returned (.bool false)∧w=w':=by
 have h':s < 0∨(0≤s∧257≤s):=by unfold symOk at h;omega
 rcases h' with h1 |⟨h1,h2⟩
 · go_enter Tryz.func152,Tryz.ntmps152
   go_wp2
   go_ret
   exact ⟨ret_bool (by simp <;> omega),rfl⟩
 · go_enter Tryz.func152,Tryz.ntmps152
   go_wp2
   go_ret
   exact ⟨ret_bool (by simp <;> omega),rfl⟩
def PutTold (w w':World) (o:Option (List UInt8)) (e:Ending):Prop:=
 (∃bs A c,o=some bs∧e=.returned (.tuple #[.slice A bs.length c,.int .i64 0])∧Made w' w.heap.size 5 1 A bs.length c (bs.map bv))∨
 (o=none∧e=.returned (.tuple #[.slice none 0 0,.int .i64 1]))
theorem RunPut_any (A:Option Addr) (m c B:Nat) (l:List Int) (w:World) (hr:Rd w B 1 A m (l.map iv)) (hB:B≤w.heap.size) (hm:m≤1000000):
 Calls Tryz.prog 73 #[.slice A m c] w fun e w'=>PutTold w w' (putRuns l) e∧Below w.heap.size w w':=by
 obtain ⟨i0,hi0,hz0,hz1,hz2⟩:=info_parts num_u8_info
 have hll:l.length=m:=by simpa using hr.1
 obtain ⟨r,hrr⟩:∃r,runsOf l=r:=⟨_,rfl⟩
 obtain ⟨n,hn⟩:∃n,r.length=n:=⟨_,rfl⟩
 have hnm:n≤1000000:=by have:=runsOf_len l;rw [hrr] at this;omega
 have hcnt:∀x∈r,x.2≤1000000:=fun x hx=>by have:=runsOf_mem l x (by rw [hrr];exact hx);omega
 have Hcnt:=lhd hcnt
 have hput:putRuns l=if ∀x∈r,symOk x.1 then some (runBytes r) else none:=by unfold putRuns;rw [hrr]
 have Hput:=lhd hput
 have Hrr:=lhd hrr
 have Hn:=lhd hn
 have Hr:=lhd hr
 have hB0:=Below.refl w.heap.size w
 clear hr hll hrr hn hput hcnt
 go_enter Tryz.func73,Tryz.ntmps73
 go_wp2_with fail
 refine (RunOf_is _ _ _ _ l _ r n Hrr.out Hn.out Hr.out hB (by omega)).mono ?_
 rintro e w1 ⟨A1,c1,rfl,hm1,hb1⟩
 have hs1:=hb1.size
 have Ho1:=lhd hm1.own
 clear hm1
 obtain ⟨k0,hk0⟩:∃k0,(encB n).length=k0:=⟨_,rfl⟩
 have hk1:k0≤11:=by rw [←hk0];exact encB_len n
 have Hk0:=lhd hk0
 clear hk0
 go_wp2_with fail
 refine (Put_is _ _ _ _ [n] _ (encB n) k0 (encAll_one n) Hk0.out (Rd.made _ _ 1 1 _ rfl) (Nat.le_refl _) (by simp;omega) (by omega)).mono ?_
 rintro e w2 ⟨A2,c2,rfl,hm2,hb2⟩
 have hB2:=(hb1.alloc hs1 _).trans (hb2.mono (by simp;omega))
 have hs2:=hB2.size
 have hs12:w1.heap.size < w2.heap.size:=by have:=hb2.size;simp at this;omega
 have hown2:w2.ownsRow w.heap.size 5 1 (.slice A2 k0 c2) k0 ((encB n).map bv):=own_mono hm2.own (by simp;omega)
 have hruns:w2.ownsRow w.heap.size 191 2 (.slice A1 n c1) n (runCells r):=own_below (Ho1.out.alloc _) hb2
 clear hm2 hb2 hb1
 go_wp2_with fail
 go_loopw [5,17] (fun v i wr=>∃k q:Nat,k≤n∧i=.int .i64 k∧wr.ownsRow w.heap.size 5 1 v q ((encB n++(r.take k).flatMap runByte).map bv)∧wr.ownsRow w.heap.size 191 2 (.slice A1 n c1) n (runCells r)∧Below w.heap.size w wr∧∀x∈r.take k,symOk x.1) (fun _ i _=>n -(intOf i).toNat)
 case atStart=>exact ⟨0,k0,Nat.zero_le _,rfl,by simpa using hown2,hruns,hB2,by simp⟩
 case round=>
  obtain ⟨k,q,hk,rfl,hown,hruns,hb,hok⟩:=hrel
  have Hok:=lhd hok
  have hsz:=hb.size
  have hq:q≤22000011:=by
   have h1:=hown.1
   have h2:=flatRun_len (r.take k)
   have h3:=encB_len n
   rw [List.length_take] at h2
   simp only [List.length_map,List.length_append] at h1
   omega
  clear hok
  by_cases hlt:k < n
  · obtain ⟨x,hx⟩:∃x,r[k]?=some x:=⟨r[k]'(by have:=Hn.out;omega),List.getElem?_eq_getElem (by have:=Hn.out;omega)⟩
    obtain ⟨g,hA1,hgl⟩:∃g,A1=some ⟨g,0,none⟩∧g < wr.heap.size:=by
        obtain ⟨g,cap,hv,_,hlt⟩:=hruns.form (by omega)
        injection hv with h1 h2 h3
        exact ⟨g,h1,hlt⟩
    subst hA1
    have d0:wr.cell? ⟨g,k*2,none⟩=some (.int .i64 x.1):=(hruns.cellAt (k*2) (by omega)).trans ((runCells_get r k 0 x hx (by omega)).trans rfl)
    have d1:wr.cell? ⟨g,k*2+1,none⟩=some (.int .i64 (x.2:Int)):=(hruns.cellAt (k*2+1) (by omega)).trans ((runCells_get r k 1 x hx (by omega)).trans rfl)
    have hnext:=runBytes_snoc r k x hx
    have hxc:=Hcnt.out x (List.mem_of_getElem? hx)
    have hin:∀y∈r.take (k+1),y∈r.take k∨y=x:=by
        intro y hy
        have hkl:k < r.length:=(List.getElem?_eq_some_iff.1 hx).1
        rw [List.take_succ_eq_append_getElem hkl,(List.getElem?_eq_some_iff.1 hx).2] at hy
        simpa using hy
    have hmem:=List.mem_of_getElem? hx
    obtain ⟨s,y⟩:=x
    simp only at d0 d1 hxc
    have Hnext:=lhd hnext
    have Hin:=lhd hin
    have Hmem:=lhd hmem
    clear hnext hx hin hmem
    by_cases hsy:symOk s
    · obtain ⟨sn,rfl⟩:=Int.eq_ofNat_of_zero_le hsy.1
      have hs257:(sn:Int) < 257:=hsy.2
      have Hsy:=lhd hsy
      clear hsy
      obtain ⟨k2,hk2⟩:∃k2,(runByte ((sn:Int),y)).length=k2:=⟨_,rfl⟩
      have hk3:k2≤22:=by rw [←hk2];exact runByte_len _
      have Hk2:=lhd hk2
      have henc:encAll [sn,y]=runByte ((sn:Int),y):=by simp [encAll,runByte]
      have Henc:=lhd henc
      clear hk2 henc
      go_wp2_with (go_at_call 152;refine (symIs_yes _ _ Hsy.out).mono ?_;rintro e w3 ⟨rfl,rfl⟩)
      refine (Put_is _ _ _ _ [sn,y] _ (runByte ((sn:Int),y)) k2 Henc.out Hk2.out (Rd.made' _ _ 1 2 _ _ rfl (by simp)) (Nat.le_refl _) (by simp;omega) (by omega)).mono ?_
      rintro e w4 ⟨A4,c4,rfl,hm4,hb4⟩
      have hB4:=((hb.alloc hsz _).alloc (by simp;omega) _).trans (hb4.mono (by simp;omega))
      have hs4:=hB4.size
      have hown4:w4.ownsRow w.heap.size 5 1 u5 q ((encB n++(r.take k).flatMap runByte).map bv):=own_below ((hown.alloc _).alloc _) hb4
      have hruns4:w4.ownsRow w.heap.size 191 2 (.slice (some ⟨g,0,none⟩) n c1) n (runCells r):=own_below ((hruns.alloc _).alloc _) hb4
      have Hr4:=lhd hm4.rd
      have Hone:=lhd (oneCell_bv (runByte ((sn:Int),y)))
      clear hm4 hb4 hown hruns
      go_wp2_with (at_builtin;refine wpList_append_rd _ rfl (.tmp 25) (.tmp 33) _ rfl w.heap.size 5 i0 (.int .u8 0) 1 1 Tryz.underlying23 hi0 hz0 hz1 hz2 rfl (by decide) u5 q _ rfl hown4 w4.heap.size A4 k2 c4 _ rfl Hr4.out Hone.out (by unfold maxLen;omega) (by omega) hs4 ?_;intro v5 w5 hown5 hg5 hat5)
      have hB5:=below_grown hB4 hown4 hg5 hs4
      have hruns5:=hruns4.kept hg5 (own_ne_own hruns4 hown4 (by decide))
      clear hg5 hat5 hruns4 hown4
      go_roundw
      case rel=>
       refine ⟨k+1,q+k2,by omega,by go_num,?_,hruns5,hB5,?_⟩
       · rw [Hnext.out,←List.append_assoc,List.map_append]
         exact hown5
       · intro z hz
         rcases Hin.out z hz with h | h
         · exact Hok.out z h
         · rw [h];exact Hsy.out
      case measure=>simp [intOf];omega
    · have Hsy:=lhd hsy
      clear hsy
      go_wp2_with (go_at_call 152;refine (symIs_no _ _ Hsy.out).mono ?_;rintro e w3 ⟨rfl,rfl⟩)
      go_ret2
      refine ⟨.inr ⟨?_,rfl⟩,hb.alloc hsz _⟩
      rw [Hput.out,if_neg]
      intro hall
      exact Hsy.out (hall _ Hmem.out)
  · have hkn:k=n:=by omega
    have hge:n≤k:=by omega
    have htk:r.take k=r:=List.take_of_length_le (by have:=Hn.out;omega)
    rw [htk] at hown Hok
    clear hkn htk hruns
    obtain ⟨A',c',rfl,hm3⟩:=made_of_own hown
    go_wp2
    go_ret2
    have hqn:(runBytes r).length=q:=by
        have:=hm3.len
        rw [List.length_map] at this
        rw [←this,runBytes,Hn.out]
    refine ⟨.inl ⟨runBytes r,A',c',?_,?_,?_⟩,hb⟩
    · rw [Hput.out,if_pos Hok.out]
    · rw [hqn];rfl
    · rw [hqn,runBytes,Hn.out]
      exact hm3
def leafL (x y:Int) (gb:Nat):List Value:= [.int .i64 (-1),.int .i64 (-1),.int .i64 0,.int .i64 x,.int .i64 y,.int .i64 0,.int .i64 0,.pointer (some ⟨gb,0,none⟩)]
def RowS (B gl cl gb:Nat) (x y:Int) (w:World):Prop:=w.ownsRow B 229 8 (.slice (some ⟨gl,0,none⟩) 1 cl) 1 (leafL x y gb)
theorem RowS.grow {B gl cl gb:Nat} {x y:Int} {w w':World} (h:RowS B gl cl gb x y w) (k:Below w.heap.size w w'):RowS B gl cl gb x y w':=own_below h k
theorem RowS.at3 {B gl cl gb:Nat} {x y:Int} {w:World} (h:RowS B gl cl gb x y w) (z:Int):RowS B gl cl gb z y (w.setCell ⟨gl,3,none⟩ (.int .i64 z)):=(World.ownsRow.stored h 3 (.int .i64 z)).1
theorem RowS.at4 {B gl cl gb:Nat} {x y:Int} {w:World} (h:RowS B gl cl gb x y w) (z:Int):RowS B gl cl gb x z (w.setCell ⟨gl,4,none⟩ (.int .i64 z)):=(World.ownsRow.stored h 4 (.int .i64 z)).1
theorem RowS.lt {B gl cl gb:Nat} {x y:Int} {w:World} (h:RowS B gl cl gb x y w):B≤gl∧gl < w.heap.size:=World.ownsRow.lt h gl rfl
theorem RowS.bk_ne {B gl cl gb g:Nat} {x y:Int} {w:World} {t:TypeId} {cs:Array Value} (h:RowS B gl cl gb x y w) (hg:Bk w g t cs) (hne:229≠t):g≠gl:=fun e=>own_bk_ne h hg hne (by rw [e];rfl)
def FixC (W0:World) (B gl cl gb:Nat) (w1:World):Prop:=Keep (fun b=>b=gl) W0 w1∧∃x y,RowS B gl cl gb x y w1
def FixS (B gl cl gb:Nat) (N O:Int) (j:Nat) (w1 w2:World):Prop:=
 (j=14→Keep (fun b=>b=gl) w1 w2∧∀x y,RowS B gl cl gb x y w1→RowS B gl cl gb N y w2)∧(j=17→Keep (fun b=>b=gl) w1 w2∧∀x y,RowS B gl cl gb x y w1→RowS B gl cl gb x O w2)∧(j≠14→j≠17→Grow w1 w2)
theorem fixs_grow {B gl cl gb:Nat} {N O:Int} {j:Nat} {w1 w2:World} (h1:j≠14) (h2:j≠17) (h:Grow w1 w2):FixS B gl cl gb N O j w1 w2:=⟨fun e=>absurd e h1,fun e=>absurd e h2,fun _ _=>h⟩
theorem fixc_step {W0 w1 w2:World} {B gl cl gb j:Nat} {N O:Int} (h:FixC W0 B gl cl gb w1) (k:FixS B gl cl gb N O j w1 w2):FixC W0 B gl cl gb w2:=by
 obtain ⟨h1,x,y,h2⟩:=h
 by_cases h14:j=14
 · obtain ⟨k1,k2⟩:=k.1 h14
   exact ⟨h1.trans k1,_,_,k2 x y h2⟩
 · by_cases h17:j=17
   · obtain ⟨k1,k2⟩:=k.2.1 h17
     exact ⟨h1.trans k1,_,_,k2 x y h2⟩
   · have kg:=k.2.2 h14 h17
     exact ⟨h1.trans (Keep.of_below kg),x,y,h2.grow kg⟩
def N3 (B gl cl gb:Nat) (N:Int):Value→World→Prop:=fun _ w1=>∃y,RowS B gl cl gb N y w1
def N4 (B gl cl gb:Nat) (O:Int):Value→World→Prop:=fun _ w1=>∃x,RowS B gl cl gb x O w1
theorem fix_leaf (gt ga gl cl gb B:Nat) (rt v:Int) (bs:List Bool) (w:World) (ht:Bk w gt 226 #[.pointer (some ⟨ga,0,none⟩),.slice (some ⟨gl,0,none⟩) 1 cl,.int .i64 rt,.int .i64 v]) {x0 y0:Int} (hr:RowS B gl cl gb x0 y0 w) (hb:Bk w gb 254 (blkC bs)) (hl:bs.length≤128):
 Calls Tryz.prog 272 #[.pointer (some ⟨gt,0,none⟩),.int .i64 0] w fun e w'=>e=.returned (.tuple #[])∧Keep (fun b=>b=gl) w w'∧RowS B gl cl gb (bs.length:Int) ((bs.count true:Nat):Int) w':=by
 obtain ⟨N,hN⟩:∃N:Int,(bs.length:Int)=N:=⟨_,rfl⟩
 obtain ⟨O,hO⟩:∃O:Int,((bs.count true:Nat):Int)=O:=⟨_,rfl⟩
 rw [hN,hO]
 have HN:=lhd hN
 have HO:=lhd hO
 have c1:w.cell? ⟨gt,1,none⟩=some (.slice (some ⟨gl,0,none⟩) 1 cl):=(ht.cell 1).trans rfl
 have c7:w.cell? ⟨gl,7,none⟩=some (.pointer (some ⟨gb,0,none⟩)):=(World.ownsRow.cellAt hr 7 (by omega)).trans rfl
 have hglt:=hr.lt
 have hbne:=hr.bk_ne hb (by decide)
 have Hb:=lhd hb
 have Hr:=lhd hr
 clear hN hO ht hb hr
 go_enter Tryz.func272,Tryz.ntmps272
 go_wp2
 refine wp_region_any (by kernel_rfl) ?_
 refine wpAny_loose8 [18,19,20,21,22,23,24,25,26,27,28,29,30,31,32,33] (FixC w B gl cl gb) (FixS B gl cl gb N O) (fun _ _=>True) (Vs [is (.pointer (some ⟨gl,0,none⟩)),is (.pointer (some ⟨gl,0,none⟩)),is (.pointer (some ⟨gl,0,none⟩)),is (.pointer (some ⟨gl,0,none⟩)),is (.pointer (some ⟨gl,7,none⟩)),is (.pointer (some ⟨gb,0,none⟩)),is (.int .i64 N),is (.pointer (some ⟨gl,0,none⟩)),is (.pointer (some ⟨gl,0,none⟩)),is (.pointer (some ⟨gl,7,none⟩)),is (.pointer (some ⟨gb,0,none⟩)),is (.int .i64 O),is (.pointer (some ⟨gl,0,none⟩)),is (.pointer (some ⟨gl,3,none⟩)),N3 B gl cl gb N,is (.pointer (some ⟨gl,0,none⟩)),is (.pointer (some ⟨gl,4,none⟩)),N4 B gl cl gb O]) _ _ rfl (by kernel_rfl) ⟨⟨rfl,rfl,rfl,Nat.le_refl _,fun _ _ _=>rfl⟩,_,_,Hr.out⟩ (fun _=>trivial) (fun j w1 w2 h k=>fixc_step h k) (fun _ _ _ _ _ _ _ _ _=>trivial) ?_ ?_ ?_
 · intro i j v w1 w2 hij haf hv hC k
   rcases i with _ | _ | _ | _ | _ | _ | _ | _ | _ | _ | _ | _ | _ | _ | _ | _ | _ | _ | i
   · exact hv
   · exact hv
   · exact hv
   · exact hv
   · exact hv
   · exact hv
   · exact hv
   · exact hv
   · exact hv
   · exact hv
   · exact hv
   · exact hv
   · exact hv
   · exact hv
   · obtain ⟨y,hv⟩:=hv
     by_cases h17:j=17
     · exact ⟨_,(k.2.1 h17).2 _ _ hv⟩
     · exact ⟨_,RowS.grow hv (k.2.2 (fun e=>hij e.symm) h17)⟩
   · exact hv
   · exact hv
   · obtain ⟨x,hv⟩:=hv
     by_cases h14:j=14
     · exact ⟨_,(k.1 h14).2 _ _ hv⟩
     · exact ⟨_,RowS.grow hv (k.2.2 h14 (fun e=>hij e.symm))⟩
   · exact trivial
 · refine steps_of ?_
   refine steps_cons (step_on3 rfl rfl fun ev _ hS _ _ _ hold _ _ _ _ hK=>?_) ?_
   · obtain ⟨hk5,x5,y5,hr5⟩:=hS
     have e4:ev (.tmp 4)=.pointer (some ⟨gl,0,none⟩):=hold 4 (by kernel_rfl)
     go_simp
     exact hK _ _ (fixs_grow (by decide) (by decide) (Below.refl _ _)) rfl
   refine steps_cons (step_on3 rfl rfl fun ev _ hS _ _ _ hold _ _ _ _ hK=>?_) ?_
   · obtain ⟨hk5,x5,y5,hr5⟩:=hS
     have e4:ev (.tmp 4)=.pointer (some ⟨gl,0,none⟩):=hold 4 (by kernel_rfl)
     go_simp
     exact hK _ _ (fixs_grow (by decide) (by decide) (Below.refl _ _)) rfl
   refine steps_cons (step_on3 rfl rfl fun ev _ hS _ _ _ hold _ _ _ _ hK=>?_) ?_
   · obtain ⟨hk5,x5,y5,hr5⟩:=hS
     have e4:ev (.tmp 4)=.pointer (some ⟨gl,0,none⟩):=hold 4 (by kernel_rfl)
     go_simp
     exact hK _ _ (fixs_grow (by decide) (by decide) (Below.refl _ _)) rfl
   refine steps_cons (step_on3 rfl rfl fun _ _ hS _ _ _ _ hval _ _ _ hK=>?_) ?_
   · obtain ⟨hk5,x5,y5,hr5⟩:=hS
     have e20:_=_:=hval 2 20 (by kernel_rfl) rfl
     go_simp
     exact hK _ _ (fixs_grow (by decide) (by decide) (Below.refl _ _)) rfl
   refine steps_cons (step_on3 rfl rfl fun _ _ hS _ _ _ _ hval _ _ _ hK=>?_) ?_
   · obtain ⟨hk5,x5,y5,hr5⟩:=hS
     have e21:_=_:=hval 3 21 (by kernel_rfl) rfl
     go_simp
     exact hK _ _ (fixs_grow (by decide) (by decide) (Below.refl _ _)) rfl
   refine steps_cons (step_on3 rfl rfl fun _ w5 hS _ _ _ _ hval _ _ _ hK=>?_) ?_
   · obtain ⟨hk5,x5,y5,hr5⟩:=hS
     have e22:_=_:=hval 4 22 (by kernel_rfl) rfl
     have d7:w5.cell? ⟨gl,7,none⟩=some (.pointer (some ⟨gb,0,none⟩)):=(World.ownsRow.cellAt hr5 7 (by omega)).trans rfl
     go_simp
     exact hK _ _ (fixs_grow (by decide) (by decide) (Below.refl _ _)) rfl
   refine steps_cons (step_on3 rfl rfl fun _ w5 hS _ _ _ _ hval _ _ _ hK=>?_) ?_
   · obtain ⟨hk5,x5,y5,hr5⟩:=hS
     have e23:_=_:=hval 5 23 (by kernel_rfl) rfl
     have hb5:=hk5.bk Hb.out (fun e=>hbne e)
     go_simp
     refine (BlockLen_any gb bs w5 hb5).mono ?_
     rintro e w8 ⟨rfl,rfl⟩
     exact hK _ _ (fixs_grow (by decide) (by decide) (Below.refl _ _)) (i64_eq HN.out)
   refine steps_cons (step_on3 rfl rfl fun ev _ hS _ _ _ hold _ _ _ _ hK=>?_) ?_
   · obtain ⟨hk5,x5,y5,hr5⟩:=hS
     have e4:ev (.tmp 4)=.pointer (some ⟨gl,0,none⟩):=hold 4 (by kernel_rfl)
     go_simp
     exact hK _ _ (fixs_grow (by decide) (by decide) (Below.refl _ _)) rfl
   refine steps_cons (step_on3 rfl rfl fun _ _ hS _ _ _ _ hval _ _ _ hK=>?_) ?_
   · obtain ⟨hk5,x5,y5,hr5⟩:=hS
     have e25:_=_:=hval 7 25 (by kernel_rfl) rfl
     go_simp
     exact hK _ _ (fixs_grow (by decide) (by decide) (Below.refl _ _)) rfl
   refine steps_cons (step_on3 rfl rfl fun _ _ hS _ _ _ _ hval _ _ _ hK=>?_) ?_
   · obtain ⟨hk5,x5,y5,hr5⟩:=hS
     have e26:_=_:=hval 8 26 (by kernel_rfl) rfl
     go_simp
     exact hK _ _ (fixs_grow (by decide) (by decide) (Below.refl _ _)) rfl
   refine steps_cons (step_on3 rfl rfl fun _ w5 hS _ _ _ _ hval _ _ _ hK=>?_) ?_
   · obtain ⟨hk5,x5,y5,hr5⟩:=hS
     have e27:_=_:=hval 9 27 (by kernel_rfl) rfl
     have d7:w5.cell? ⟨gl,7,none⟩=some (.pointer (some ⟨gb,0,none⟩)):=(World.ownsRow.cellAt hr5 7 (by omega)).trans rfl
     go_simp
     exact hK _ _ (fixs_grow (by decide) (by decide) (Below.refl _ _)) rfl
   refine steps_cons (step_on3 rfl rfl fun _ w5 hS _ _ _ _ hval _ _ _ hK=>?_) ?_
   · obtain ⟨hk5,x5,y5,hr5⟩:=hS
     have e28:_=_:=hval 10 28 (by kernel_rfl) rfl
     have hb5:=hk5.bk Hb.out (fun e=>hbne e)
     go_simp
     refine (BlockOnes_any gb bs w5 hb5 hl).mono ?_
     rintro e w8 ⟨rfl,rfl⟩
     exact hK _ _ (fixs_grow (by decide) (by decide) (Below.refl _ _)) (i64_eq HO.out)
   refine steps_cons (step_on3 rfl rfl fun _ _ hS _ _ _ _ hval _ _ _ hK=>?_) ?_
   · obtain ⟨hk5,x5,y5,hr5⟩:=hS
     have e18:_=_:=hval 0 18 (by kernel_rfl) rfl
     go_simp
     exact hK _ _ (fixs_grow (by decide) (by decide) (Below.refl _ _)) rfl
   refine steps_cons (step_on3 rfl rfl fun _ _ hS _ _ _ _ hval _ _ _ hK=>?_) ?_
   · obtain ⟨hk5,x5,y5,hr5⟩:=hS
     have e30:_=_:=hval 12 30 (by kernel_rfl) rfl
     go_simp
     exact hK _ _ (fixs_grow (by decide) (by decide) (Below.refl _ _)) rfl
   refine steps_cons (step_on3 rfl rfl fun _ w5 hS _ _ _ _ hval _ _ _ hK=>?_) ?_
   · obtain ⟨hk5,x5,y5,hr5⟩:=hS
     have e31:_=_:=hval 13 31 (by kernel_rfl) rfl
     have e24:_=_:=hval 6 24 (by kernel_rfl) rfl
     have d3:w5.cell? ⟨gl,3,none⟩=some (.int .i64 x5):=(World.ownsRow.cellAt hr5 3 (by omega)).trans rfl
     have f3:=World.ownsRow.frozenAt hr5 3
     go_simp
     exact hK (.bool true) _ ⟨fun _=>⟨Keep.setCell (F:=fun b=>b=gl) (Keep.refl _ _) (p:=⟨gl,3,none⟩) (.inl rfl) _,fun x y h=>h.at3 N⟩,fun e=>absurd e (by decide),fun e=>absurd rfl e⟩ ⟨y5,hr5.at3 N⟩
   refine steps_cons (step_on3 rfl rfl fun _ _ hS _ _ _ _ hval _ _ _ hK=>?_) ?_
   · obtain ⟨hk5,x5,y5,hr5⟩:=hS
     have e19:_=_:=hval 1 19 (by kernel_rfl) rfl
     go_simp
     exact hK _ _ (fixs_grow (by decide) (by decide) (Below.refl _ _)) rfl
   refine steps_cons (step_on3 rfl rfl fun _ _ hS _ _ _ _ hval _ _ _ hK=>?_) ?_
   · obtain ⟨hk5,x5,y5,hr5⟩:=hS
     have e32:_=_:=hval 15 32 (by kernel_rfl) rfl
     go_simp
     exact hK _ _ (fixs_grow (by decide) (by decide) (Below.refl _ _)) rfl
   refine steps_cons (step_on3 rfl rfl fun _ w5 hS _ _ _ _ hval _ _ _ hK=>?_) ?_
   · obtain ⟨hk5,x5,y5,hr5⟩:=hS
     have e33:_=_:=hval 16 33 (by kernel_rfl) rfl
     have e29:_=_:=hval 11 29 (by kernel_rfl) rfl
     have d4:w5.cell? ⟨gl,4,none⟩=some (.int .i64 y5):=(World.ownsRow.cellAt hr5 4 (by omega)).trans rfl
     have f4:=World.ownsRow.frozenAt hr5 4
     go_simp
     exact hK (.bool true) _ ⟨fun e=>absurd e (by decide),fun _=>⟨Keep.setCell (F:=fun b=>b=gl) (Keep.refl _ _) (p:=⟨gl,4,none⟩) (.inl rfl) _,fun x y h=>h.at4 O⟩,fun _ e=>absurd rfl e⟩ ⟨x5,hr5.at4 O⟩
   exact steps_nil
 · intro ev w6 hS hval hall
   obtain ⟨hk6,_⟩:=hS
   obtain ⟨_,y6,h14⟩:∃v,N3 B gl cl gb N v w6:=hall 14 (by decide)
   obtain ⟨_,x6,h17⟩:∃v,N4 B gl cl gb O v w6:=hall 17 (by decide)
   have hfin:RowS B gl cl gb N O w6:=by
    have q4:=(World.ownsRow.cellAt h14 4 (by omega)).symm.trans (World.ownsRow.cellAt h17 4 (by omega))
    have q5:y6=O:=by simpa [leafL] using q4
    rw [←q5]
    exact h14
   simp only [putsOf,List.foldl_cons,List.foldl_nil,Act.put,List.setIfInBounds_toArray,List.set_cons_zero,List.set_cons_succ]
   clear hval hall
   go_wp2
   exact bodyPost_ret (results_none rfl _ _ _) rfl ⟨rfl,hk6,hfin⟩
end Go.Proofs.YtipaccakmndkgaaGreatDoor
