/- A region that draws its order, each of whose operations yields a value of which a stable property holds, whatever came up before: no order is walked. No conditions. The contract of slices.Sort at integers: on no slice at all, and on a row of the call's own. Conditions: none. Where bytes stand in others (plain). No conditions. Behind a region of 'wpAny_loose' the frame is the old one with the operations' slots put anew. No conditions. Lists with an element let in or out (plain Lean). No conditions. -/
import Derived.Test.YtipaccakmndkgaaGreatPwa0
import Derived.Orders
import Derived.Test.YtipaccakmndkgaaGreatShs
import Derived.Test.YtipaccakmndkgaaGreatShl
import Derived.Sort.OwnSortedInts
import Derived.Shelf.Sort.Plain
import Derived.Test.YtipaccakmndkgaaGreatPwa1
namespace Go.Proofs.YtipaccakmndkgaaGreat
open Go.RowKit Go
set_option linter.unusedVariables false
section
variable {P : Program} {ops : Array Oper} {Q : Exit → Act → World → Prop} {md : Region.Mode}
def oldB (md:Region.Mode) (ops:Array Oper) (j t:Nat):Bool:=
 (List.range ops.size).all fun k=>match ops[k]? with
    | some p=>p.dst != some t||k==j||p.after.toList.any (fun e=>Region.binds md e&&e.on==j)
    | none=>true
def laidB (md:Region.Mode) (ops:Array Oper) (n:Nat):Bool:=
 (List.range ops.size).all fun k=>match ops[k]? with
    | some p=>p.after.toList.all (fun e=> !Region.binds md e||decide (e.on < k))&&
     (match p.dst with | some d=>decide (d < n)&&(List.range ops.size).all (fun j=>j==k||((ops[j]?).bind (·.dst))!= some d)| none=>true)
    | none=>true
theorem laidB_at {n:Nat} (h:laidB md ops n=true) {k:Nat} {p:Oper} (hp:ops[k]?=some p):
 (∀e∈p.after,Region.binds md e=true→e.on < k)∧∀d,p.dst=some d→d < n∧∀j q,ops[j]?=some q→q.dst=some d→j=k:=by
 have hk:k < ops.size:=(Array.getElem?_eq_some_iff.1 hp).1
 have h1:=List.all_eq_true.1 h k (List.mem_range.2 hk)
 simp only [hp,Bool.and_eq_true] at h1
 refine ⟨fun e he hb=>?_,fun d hd=>?_⟩
 · have:=List.all_eq_true.1 h1.1 e (Array.mem_toList_iff.2 he)
   simpa [hb] using this
 · have h2:=h1.2
   simp only [hd,Bool.and_eq_true,decide_eq_true_eq] at h2
   refine ⟨h2.1,fun j q hq hqd=>?_⟩
   have hj:j < ops.size:=(Array.getElem?_eq_some_iff.1 hq).1
   have:=List.all_eq_true.1 h2.2 j (List.mem_range.2 hj)
   simp only [hq,Option.bind_some,hqd,Bool.or_eq_true,beq_iff_eq,bne_self_eq_false,Bool.false_eq_true,or_false] at this
   exact this
theorem oldB_at {j t:Nat} (h:oldB md ops j t=true) {k:Nat} {p:Oper} (hp:ops[k]?=some p) (hd:p.dst=some t):
 k=j∨∃e∈p.after,Region.binds md e=true∧e.on=j:=by
 have hk:k < ops.size:=(Array.getElem?_eq_some_iff.1 hp).1
 have h1:=List.all_eq_true.1 h k (List.mem_range.2 hk)
 simp only [hp,hd,Bool.or_eq_true,beq_iff_eq,bne_self_eq_false,Bool.false_eq_true,false_or] at h1
 rcases h1 with h1 | h1
 · exact .inl h1
 · obtain ⟨e,he,h2⟩:=List.any_eq_true.1 h1
   simp only [Bool.and_eq_true,beq_iff_eq] at h2
   exact .inr ⟨e,Array.mem_toList_iff.1 he,h2.1,h2.2⟩
structure Loose (md:Region.Mode) (ops:Array Oper) (S:World→World→Prop) (V:Nat→Value→World→Prop) (a0:Act) (W0:World) (listed:Array Bool) (a:Act) (w:World):Prop where
 world:S W0 w
 size:a.tmps.size=a0.tmps.size
 defers:a.defers=a0.defers
 old:∀t,(∀k p,ops[k]?=some p→p.dst=some t→listed.getD k false=false)→a.tmps.getD t undef=a0.tmps.getD t undef
 val:∀i o d,ops[i]?=some o→listed.getD i false=true→o.dst=some d→V i (a.tmps.getD d undef) w
 shut:∀k p,ops[k]?=some p→listed.getD k false=true→∀e∈p.after,Region.binds md e=true→listed.getD e.on false=true
theorem getD_set_same (l:Array Bool) (i:Nat) (h:i < l.size) (d:Bool):(l.setIfInBounds i true).getD i d=true:=by simp [h]
theorem getD_set_or (l:Array Bool) (i k:Nat) (h:(l.setIfInBounds i true).getD k false=true):k=i∨l.getD k false=true:=by
 by_cases hk:i=k
 · exact .inl hk.symm
 · rw [getD_set_ne false hk] at h;exact .inr h
def StepOk (P:Program) (ops:Array Oper) (Q:Exit→Act→World→Prop) (md:Region.Mode) (S:World→World→Prop) (V:Nat→Value→World→Prop) (a0:Act) (W0:World) (j:Nat) (o:Oper):Prop:=
 ∀a w,S W0 w→a.tmps.size=a0.tmps.size→a.defers=a0.defers→
    (∀t,oldB md ops j t=true→a.tmps.getD t undef=a0.tmps.getD t undef)→
    (∀e∈o.after,Region.binds md e=true→∀p d,ops[e.on]?=some p→p.dst=some d→V e.on (a.tmps.getD d undef) w)→
    ∀K:Act→World→Prop,(∀v w',S w w'→V j v w'→K (a.put o.dst v) w')→wpOp P ops Q j K a w
theorem step_on {S:World→World→Prop} {V:Nat→Value→World→Prop} {a0:Act} {W0:World} {j:Nat} {o:Oper} (ho:ops[j]?=some o) (hg:o.guard=none)
 (h:∀ev:Operand→Value,∀w,S W0 w→(∀v,ev (.const v)=v)→(∀f,ev (.func f)=.func (.func f) #[] #[])→(∀t,oldB md ops j t=true→ev (.tmp t)=a0.eval (.tmp t))→
  (∀i d,o.after.toList.any (fun e=>Region.binds md e&&e.on==i)=true→((ops[i]?).bind (·.dst))=some d→V i (ev (.tmp d)) w)→
  ∀a K,a.eval=ev→(∀v w',S w w'→V j v w'→K (a.put o.dst v) w')→Oper.upon P o a K Q ((execOp ev o).run P w)):StepOk P ops Q md S V a0 W0 j o:=by
 intro a w hS hsz hdf hold hval K hK
 unfold wpOp
 simp only [ho]
 have hw:Region.wanted o (yielded ops a.tmps)=true:=by unfold Region.wanted;rw [hg]
 rw [if_pos hw]
 refine .inl (h a.eval w hS (fun _=>rfl) (fun _=>rfl) (fun t ht=>hold t ht) (fun i d hi hd=>?_) a K rfl hK)
 obtain ⟨e,he,h2⟩:=List.any_eq_true.1 hi
 simp only [Bool.and_eq_true,beq_iff_eq] at h2
 obtain ⟨h3,rfl⟩:=h2
 cases hp:ops[e.on]? with
 | none=>rw [hp] at hd;cases hd
 | some p=>rw [hp] at hd;exact hval e (Array.mem_toList_iff.1 he) h3 p d hp hd
theorem steps_nil {T:Nat→Oper→Prop} {k:Nat}:∀j p,([]:List Oper)[j]?=some p→T (k+j) p:=by intro j p h;simp at h
theorem steps_cons {T:Nat→Oper→Prop} {k:Nat} {o:Oper} {l:List Oper} (h:T k o) (hl:∀j p,l[j]?=some p→T (k+1+j) p):∀j p,(o::l)[j]?=some p→T (k+j) p:=by
 intro j p hj
 cases j with
 | zero=>simp at hj;subst hj;exact h
 | succ j=>simp at hj;have:=hl j p hj;rwa [show k+1+j=k+(j+1) by omega] at this
theorem steps_of {T:Nat→Oper→Prop} {l:List Oper} (h:∀j p,l[j]?=some p→T (0+j) p):∀j p,l.toArray[j]?=some p→T j p:=by
 intro j p hj
 have:=h j p (by simpa using hj)
 rwa [Nat.zero_add] at this
def is (c:Value):Value→World→Prop:=fun v _=>v=c
def row (sz n:Nat) (xs:List Value):Value→World→Prop:=fun v w=>∃A c,v=.slice A n c∧Rd w w.heap.size sz A n xs∧n≤c∧c≤maxLen
def Grow (w w':World):Prop:=Below w.heap.size w w'
theorem Grow.trans {w w1 w2:World} (h:Grow w w1) (k:Grow w1 w2):Grow w w2:=Below.trans h (Below.mono k (Below.size h))
def Stb (p:Value→World→Prop):Prop:=∀v w w',p v w→Grow w w'→p v w'
theorem stb_is (c:Value):Stb (is c):=fun _ _ _ h _=>h
theorem stb_row (sz n:Nat) (xs:List Value):Stb (row sz n xs):=fun _ _ _ ⟨A,c,h1,h2,h3⟩ hb=>⟨A,c,h1,(h2.below hb).mono (Below.size hb),h3⟩
def Vs (l:List (Value→World→Prop)) (i:Nat):Value→World→Prop:=l.getD i fun _ _=>True
theorem stb_all {l:List (Value→World→Prop)} (h:∀p∈l,Stb p):∀i v w w',Vs l i v w→Grow w w'→Vs l i v w':=by
 intro i v w w' h1 h2
 unfold Vs at*
 rw [List.getD_eq_getElem?_getD] at*
 cases hp:l[i]? with
 | none=>exact trivial
 | some p=>rw [hp] at h1;exact h p (List.mem_of_getElem? hp) _ _ _ h1 h2
theorem wpAny_loose (S:World→World→Prop) (V:Nat→Value→World→Prop) (a0:Act) (W0:World)
 (hlaid:laidB md ops a0.tmps.size=true) (hrefl:S W0 W0) (htrans:∀w w',S W0 w→S w w'→S W0 w') (hstab:∀i v w w',V i v w→S w w'→V i v w')
 (hstep:∀j o,ops[j]?=some o→StepOk P ops Q md S V a0 W0 j o)
 (hend:∀a w,S W0 w→a.tmps.size=a0.tmps.size→a.defers=a0.defers→
  (∀t,(∀(k:Nat) (p:Oper),ops[k]?=some p→p.dst≠some t)→a.tmps.getD t undef=a0.tmps.getD t undef)→
  (∀i o d,ops[i]?=some o→o.dst=some d→V i (a.tmps.getD d undef) w)→Q .normal a w):
 wpAny P md ops Q ops.size (Array.replicate ops.size false) a0 W0:=by
 have done:∀listed a w,listed.size=ops.size→(∀i,i < ops.size→listed.getD i false=true)→Loose md ops S V a0 W0 listed a w→Q .normal a w:=by
  intro listed a w hl hall h
  refine hend a w h.world h.size h.defers (fun t ht=>h.old t fun k p hp hd=>absurd hd (ht k p hp)) fun i o d ho hd=>h.val i o d ho (hall i (Array.getElem?_eq_some_iff.1 ho).1) hd
 have none_ready:∀listed:Array Bool,listed.size=ops.size→Region.ready md ops listed= []→∀i,i < ops.size→listed.getD i false=true:=by
  intro listed hl hr i
  induction i using Nat.strongRecOn with
  | _ i ih=>
    intro hi
    cases hc:listed.getD i false with
    | true=>rfl
    | false=>
      exfalso
      have hm:i∈Region.ready md ops listed:=by
        refine mem_ready.2 ⟨?_,ops[i],Array.getElem?_eq_getElem hi,fun e he hb=>?_⟩
        · have hi':i < listed.size:=by omega
          simp [hi'] at hc⊢
          exact hc
        · have:=(laidB_at hlaid (Array.getElem?_eq_getElem hi)).1 e he hb
          exact ih e.on this (by omega)
      rw [hr] at hm
      cases hm
 have main:∀fuel listed a w,listed.size=ops.size→listed.toList.count false≤fuel→Loose md ops S V a0 W0 listed a w→wpAny P md ops Q fuel listed a w:=by
  intro fuel
  induction fuel with
  | zero=>
    intro listed a w hl hc h
    have hall:∀i,i < ops.size→listed.getD i false=true:=by
        intro i hi
        have hi':i < listed.size:=by omega
        cases hv:listed.getD i false with
        | true=>rfl
        | false=>
          exfalso
          have:false∈listed.toList:=by
           simp [hi'] at hv
           exact hv ▸(by simp)
          have:=List.count_pos_iff.2 this
          omega
    refine ⟨?_,done listed a w hl hall h⟩
    cases hr:Region.ready md ops listed with
    | nil=>rfl
    | cons i l=>
      exfalso
      have hi:i∈Region.ready md ops listed:=by rw [hr];exact List.mem_cons_self ..
      obtain ⟨h0,o,ho,_⟩:=mem_ready.1 hi
      have hlt:i < ops.size:=(Array.getElem?_eq_some_iff.1 ho).1
      have h1:=hall i hlt
      have hi':i < listed.size:=by omega
      simp [hi'] at h0 h1
      rw [h0] at h1
      cases h1
  | succ fuel ih=>
    intro listed a w hl hc h
    refine ⟨fun hr=>done listed a w hl (none_ready listed hl hr) h,fun j hj=>?_⟩
    obtain ⟨h0,o,ho,haft⟩:=mem_ready.1 hj
    have hlt:j < ops.size:=(Array.getElem?_eq_some_iff.1 ho).1
    have hjl:j < listed.size:=by omega
    have h0':listed.getD j false=false:=by simp [hjl] at h0⊢;exact h0
    refine hstep j o ho a w h.world h.size h.defers (fun t ht=>h.old t fun k p hp hd=>?_) (fun e he hb p d hp hd=>h.val e.on p d hp (haft e he hb) hd) _ fun v w' hS hV=>?_
    · rcases oldB_at ht hp hd with rfl |⟨e,he,hb,heq⟩
      · exact h0'
      · cases hk:listed.getD k false with
        | false=>rfl
        | true=>
          have:=h.shut k p hp hk e he hb
          rw [heq,h0'] at this
          cases this
    · refine ih _ _ _ (by simpa using hl) ?_ ?_
      · have hv:listed.toList[j]'(by simpa using hjl)=false:=by simp [hjl] at h0'⊢;exact h0'
        rw [Array.toList_setIfInBounds,List.count_set (by simpa using hjl),hv]
        simp
        have hm:false∈listed.toList:=hv ▸ List.getElem_mem _
        have:=List.count_pos_iff.2 hm
        rw [←Array.count_toList]
        omega
      · have hsz:(a.put o.dst v).tmps.size=a0.tmps.size:=by
          rw [←h.size]
          cases o.dst with
          | none=>rfl
          | some d=>simp [Act.put]
        refine ⟨htrans w w' h.world hS,hsz,?_,fun t ht=>?_,fun i p d hp hi hd=>?_,fun k p hp hk e he hb=>?_⟩
        · rw [←h.defers]
          cases o.dst <;> rfl
        · have hne:o.dst≠some t:=fun hd=>by
           have:=ht j o ho hd
           rw [getD_set_same _ _ hjl] at this
           cases this
          have hold:=h.old t fun k p hp hd=>by
           have:=ht k p hp hd
           cases hk:listed.getD k false with
           | false=>rfl
           | true=>
             by_cases hjk:j=k
             · subst hjk;rw [h0'] at hk;cases hk
             · rw [getD_set_ne false hjk,hk] at this;cases this
          rw [←hold]
          cases hod:o.dst with
          | none=>rfl
          | some d=>
            have hdt:d≠t:=fun h=>hne (by rw [hod,h])
            simp [Act.put,Array.getD_eq_getD_getElem?,hdt]
        · rcases getD_set_or _ _ _ hi with rfl | hi1
          · rw [ho] at hp
            injection hp with hp
            subst hp
            have hdl:=((laidB_at hlaid ho).2 d hd).1
            have:(a.put o.dst v).tmps.getD d undef=v:=by
              rw [hd]
              have:d < a.tmps.size:=by rw [h.size];exact hdl
              simp [Act.put,Array.getD_eq_getD_getElem?,this]
            rw [this]
            exact hV
          · by_cases hij:i=j
            · subst hij;rw [h0'] at hi1;cases hi1
            have:(a.put o.dst v).tmps.getD d undef=a.tmps.getD d undef:=by
              cases hod:o.dst with
              | none=>rfl
              | some d'=>
                have hdt:d'≠d:=fun h=>hij (((laidB_at hlaid ho).2 d' hod).2 i p hp (h ▸ hd))
                simp [Act.put,Array.getD_eq_getD_getElem?,hdt]
            rw [this]
            exact hstab _ _ _ _ (h.val i p d hp hi1 hd) hS
        · rcases getD_set_or _ _ _ hk with rfl | hk
          · rw [ho] at hp
            injection hp with hp
            subst hp
            have h1:=haft e he hb
            by_cases hje:k=e.on
            · rw [←hje];exact getD_set_same _ _ hjl _
            · rw [getD_set_ne false hje];exact h1
          · have h1:=h.shut k p hp hk e he hb
            by_cases hje:j=e.on
            · rw [←hje];exact getD_set_same _ _ hjl _
            · rw [getD_set_ne false hje];exact h1
 refine main _ _ _ _ (by simp) (by simp) ⟨hrefl,rfl,rfl,fun _ _=>rfl,fun i o d ho hi hd=>?_,fun k p hp hk=>?_⟩
 · have hlt:i < ops.size:=(Array.getElem?_eq_some_iff.1 ho).1
   simp [hlt] at hi
 · have hlt:k < ops.size:=(Array.getElem?_eq_some_iff.1 hp).1
   simp [hlt] at hk
end
end Go.Proofs.YtipaccakmndkgaaGreat
namespace Go.Proofs.YtipaccakmndkgaaGreat
open Go.RowKit
set_option linter.unusedVariables false
set_option linter.unusedSimpArgs false
set_option maxRecDepth 100000 in
theorem InsNil_any (w:World):Calls Tryz.prog 103 #[.slice none 0 0,.int .i64 0,.int .i64 0] w fun e w'=>e=.returned (.tuple #[])∧w'=w:=by
 go_enter Tryz.func103,Tryz.ntmps103
 go_wp2_with fail
 go_loopw [6] (fun x wr=>x=.int .i64 1∧wr=w) (fun _ _=>0)
 case atStart=>exact ⟨rfl,rfl⟩
 case round=>
  obtain ⟨rfl,rfl⟩:=hrel
  go_wp2_with fail
  go_end0
  exact ⟨rfl,rfl⟩
set_option maxRecDepth 100000 in
theorem PdqNil_any (l:Int) (w:World):Calls Tryz.prog 71 #[.slice none 0 0,.int .i64 0,.int .i64 0,.int .i64 l] w fun e w'=>e=.returned (.tuple #[])∧w'=w:=by
 go_enter Tryz.func71,Tryz.ntmps71
 go_wp2_with fail
 go_loopw [1,2] (fun x y wr=>x=.int .i64 0∧y=.int .i64 0∧wr=w) (fun _ _ _=>0)
 case atStart=>exact ⟨rfl,rfl,rfl⟩
 case round=>
  obtain ⟨rfl,rfl,rfl⟩:=hrel
  go_wp2_with fail
  refine (InsNil_any wr).mono ?_
  rintro e w1 ⟨rfl,rfl⟩
  go_wp2_with fail
  exact bodyPost_ret (results_none rfl _ _ _) rfl ⟨rfl,rfl⟩
set_option maxRecDepth 100000 in
theorem SortNil_any (w:World):Calls Tryz.prog 35 #[.slice none 0 0] w fun e w'=>e=.returned (.tuple #[])∧w'=w:=by
 have hlen:Calls Tryz.prog 72 #[.int .u64 0] w fun e w'=>e=.returned (.int .i64 (Lib.bitLen (0:Int).toNat))∧w'=w:=calls_of_every_depth fun D=>AnyS.bits_LenIn shLen D 0 w (by omega) (by omega)
 go_enter Tryz.func35,Tryz.ntmps35
 go_wp2_with fail
 refine hlen.mono ?_
 rintro e w1 ⟨rfl,rfl⟩
 go_wp2_with fail
 refine (PdqNil_any _ w1).mono ?_
 rintro e w2 ⟨rfl,rfl⟩
 go_wp2_with fail
 go_end0
 exact ⟨rfl,rfl⟩
theorem SortOwn_any (base:Nat) (v:Value) (n:Nat) (zs:List Int) (w:World) (h:w.ownsRow base 3 1 v n (zs.map (Value.int .i64))) (hn:zs.length=n) (hn2:n≤1000):
 ∃A c,v=.slice A n c∧Calls Tryz.prog 35 #[.slice A n c] w fun e w'=>e=.returned (.tuple #[])∧w'.ownsRow base 3 1 (.slice A n c) n ((zs.mergeSort fun x y=>decide (x≤y)).map (Value.int .i64))∧Keep (fun b=>(Value.slice A n c).ownBlock=some b) w w':=by
 subst hn
 rcases h.2 with ⟨h1,h2⟩|⟨g,cap,cur,h1,hb,hg,hnc,hm,hsz,htk⟩
 · subst h1
   refine ⟨none,0,by rw [h2],?_⟩
   have hz:zs= []:=List.eq_nil_of_length_eq_zero h2
   subst hz
   refine (SortNil_any w).mono ?_
   rintro e w' ⟨rfl,rfl⟩
   exact ⟨rfl,by simpa using h,Keep.refl _ _⟩
 · subst h1
   refine ⟨_,cap,rfl,?_⟩
   have hgl:g < w.heap.size:=(Array.getElem?_eq_some_iff.1 hg).1
   have hH:Sort.Holds (Value.int .i64) w g 0 zs.toArray:=holds_of_blockI hg (by rw [←htk];simp)
   refine (Any.slices_Sort_int shSrt g 0 cap zs w hH hgl (by omega)).mono ?_
   rintro e w' ⟨rfl,k,os,rfl⟩
   have hgr:=grownBy_sortedI (w:=w) (g:=g) (n:=k) (os:=os) (zs.mergeSort fun x y=>decide (x≤y)).toArray
   refine ⟨rfl,ownsRow_sortedI (by simp) hb hg hnc hm hsz,⟨hgr.os,hgr.tape,hgr.output,hgr.size,fun b hb hne=>hgr.block b hb (fun e=>hne e.symm)⟩⟩
end Go.Proofs.YtipaccakmndkgaaGreat
namespace Go.Proofs.YtipaccakmndkgaaGreat
open Go.RowKit
set_option linter.unusedVariables false
set_option linter.unusedSimpArgs false
def findTo (T D:List UInt8) (k:Nat):List Nat:=(List.range k).filter fun i=>D.isPrefixOf (T.drop i)
def findB (T D:List UInt8):List Nat:=findTo T D (T.length+1 - D.length)
theorem findTo_yes (T D:List UInt8) (k:Nat) (h:D.isPrefixOf (T.drop k)=true):findTo T D (k+1)=findTo T D k++ [k]:=by
 simp [findTo,List.range_succ,List.filter_append,h]
theorem findTo_no (T D:List UInt8) (k:Nat) (h:D.isPrefixOf (T.drop k)=false):findTo T D (k+1)=findTo T D k:=by
 simp [findTo,List.range_succ,List.filter_append,h]
theorem findTo_le (T D:List UInt8) (k:Nat):(findTo T D k).length≤k:=by
 have:=List.length_filter_le (fun i=>D.isPrefixOf (T.drop i)) (List.range k)
 rw [List.length_range] at this
 exact this
end Go.Proofs.YtipaccakmndkgaaGreat
namespace Go.Proofs.YtipaccakmndkgaaGreat
open Go.RowKit Go
set_option linter.unusedVariables false
def putsOf (ev:Operand→Value) (ds:List Nat) (a0:Act):Act:=ds.foldl (fun x d=>x.put (some d) (ev (.tmp d))) a0
theorem puts_at (a:Act) (ds:List Nat) (a0:Act) (hsz:a.tmps.size=a0.tmps.size):
 (putsOf a.eval ds a0).tmps.size=a0.tmps.size∧(putsOf a.eval ds a0).defers=a0.defers∧
 ∀t,(putsOf a.eval ds a0).tmps.getD t undef=if t∈ds then a.tmps.getD t undef else a0.tmps.getD t undef:=by
 induction ds generalizing a0 with
 | nil=>exact ⟨rfl,rfl,fun t=>by simp [putsOf]⟩
 | cons d ds ih=>
   have h1:(a0.put (some d) (a.eval (.tmp d))).tmps.size=a0.tmps.size:=by simp [Act.put]
   obtain ⟨i1,i2,i3⟩:=ih (a0.put (some d) (a.eval (.tmp d))) (by rw [h1];exact hsz)
   refine ⟨i1.trans h1,i2,fun t=>?_⟩
   have h2:=i3 t
   change (putsOf a.eval ds (a0.put (some d) (a.eval (.tmp d)))).tmps.getD t undef=_
   rw [h2]
   by_cases ht:t∈ds
   · rw [if_pos ht,if_pos (List.mem_cons_of_mem _ ht)]
   · rw [if_neg ht]
     by_cases htd:t=d
     · subst htd
       rw [if_pos (List.mem_cons_self ..)]
       by_cases hlt:t < a0.tmps.size
       · simp [Act.put,Array.getD_eq_getD_getElem?,hlt,Act.eval]
       · have hlt2:¬t < a.tmps.size:=by omega
         simp [Act.put,Array.getD_eq_getD_getElem?,hlt,hlt2]
     · rw [if_neg (by simp [htd,ht])]
       have:d≠t:=fun h=>htd h.symm
       simp [Act.put,Array.getD_eq_getD_getElem?,this]
theorem act_puts (a a0:Act) (ds:List Nat) (hsz:a.tmps.size=a0.tmps.size) (hdf:a.defers=a0.defers) (h:∀t,t∉ds→a.tmps.getD t undef=a0.tmps.getD t undef):a=putsOf a.eval ds a0:=by
 obtain ⟨i1,i2,i3⟩:=puts_at a ds a0 hsz
 have key:a.tmps=(putsOf a.eval ds a0).tmps:=by
  apply Array.ext
  · rw [i1,hsz]
  · intro i h1 h2
    have:=i3 i
    have e1:(putsOf a.eval ds a0).tmps.getD i undef=(putsOf a.eval ds a0).tmps[i]:=by simp [Array.getD_eq_getD_getElem?,h2]
    have e2:a.tmps.getD i undef=a.tmps[i]:=by simp [Array.getD_eq_getD_getElem?,h1]
    rw [e1] at this
    rw [this]
    by_cases hi:i∈ds
    · rw [if_pos hi,e2]
    · rw [if_neg hi,←h i hi,e2]
 cases ha:a with
 | mk t d=>
   cases hp:putsOf a.eval ds a0 with
   | mk t' d'=>
     rw [ha] at hp
     rw [hp]
     rw [ha,hp] at key
     rw [ha,hp] at i2
     rw [ha] at hdf
     simp only at key i2 hdf
     rw [key,hdf,i2]
section
variable {P : Program} {ops : Array Oper} {Q : Exit → Act → World → Prop} {md : Region.Mode}
theorem wpAny_loose2 (ds:List Nat) (S:World→World→Prop) (V:Nat→Value→World→Prop) (a0:Act) (W0:World)
 (hds:ops.toList.filterMap (·.dst)=ds)
 (hlaid:laidB md ops a0.tmps.size=true) (hrefl:S W0 W0) (htrans:∀w w',S W0 w→S w w'→S W0 w') (hstab:∀i v w w',V i v w→S w w'→V i v w')
 (hstep:∀j o,ops[j]?=some o→StepOk P ops Q md S V a0 W0 j o)
 (hend:∀(ev:Operand→Value) w,S W0 w→(∀i d,((ops[i]?).bind (·.dst))=some d→V i (ev (.tmp d)) w)→Q .normal (putsOf ev ds a0) w):
 wpAny P md ops Q ops.size (Array.replicate ops.size false) a0 W0:=by
 refine wpAny_loose S V a0 W0 hlaid hrefl htrans hstab hstep fun a w hS hsz hdf hold hval=>?_
 have h1:=hend a.eval w hS fun i d hd=>by
  cases ho:ops[i]? with
  | none=>rw [ho] at hd;cases hd
  | some o=>rw [ho] at hd;exact hval i o d ho hd
 rw [←act_puts a a0 ds hsz hdf fun t ht=>hold t fun k p hp hd=>ht ?_] at h1
 · exact h1
 · rw [←hds]
   exact List.mem_filterMap.2 ⟨p,Array.mem_toList_iff.2 (Array.mem_of_getElem? hp),hd⟩
end
end Go.Proofs.YtipaccakmndkgaaGreat
namespace Go.Proofs.YtipaccakmndkgaaGreat
set_option linter.unusedVariables false
set_option linter.unusedSimpArgs false
def insN {α:Type} (l:List α) (k:Nat) (x:α):List α:=l.take k++x::l.drop k
def delN {α:Type} (l:List α) (k:Nat):List α:=l.take k++l.drop (k+1)
theorem insN_len {α:Type} (l:List α) {k:Nat} (x:α) (h:k≤l.length):(insN l k x).length=l.length+1:=by
 unfold insN
 rw [List.length_append,List.length_take,List.length_cons,List.length_drop]
 omega
theorem delN_len {α:Type} (l:List α) {k:Nat} (h:k < l.length):(delN l k).length+1=l.length:=by
 unfold delN
 rw [List.length_append,List.length_take,List.length_drop]
 omega
theorem insN_get {α:Type} (l:List α) {k:Nat} (x:α) (h:k≤l.length) (j:Nat):(insN l k x)[j]?=if j < k then l[j]? else if j=k then some x else l[j - 1]?:=by
 unfold insN
 have hl:(l.take k).length=k:=by rw [List.length_take];omega
 by_cases h1:j < k
 · rw [if_pos h1,List.getElem?_append_left (by omega),List.getElem?_take,if_pos h1]
 · rw [if_neg h1,List.getElem?_append_right (by omega),hl]
   by_cases h2:j=k
   · subst h2
     rw [if_pos rfl,Nat.sub_self]
     rfl
   · rw [if_neg h2]
     obtain ⟨d,rfl⟩:∃d,j=k+d+1:=⟨j - k - 1,by omega⟩
     rw [show k+d+1 - k=d+1 by omega,List.getElem?_cons_succ,List.getElem?_drop]
     congr 1
theorem delN_get {α:Type} (l:List α) {k:Nat} (h:k < l.length) (j:Nat):(delN l k)[j]?=if j < k then l[j]? else l[j+1]?:=by
 unfold delN
 have hl:(l.take k).length=k:=by rw [List.length_take];omega
 by_cases h1:j < k
 · rw [if_pos h1,List.getElem?_append_left (by omega),List.getElem?_take,if_pos h1]
 · rw [if_neg h1,List.getElem?_append_right (by omega),hl,List.getElem?_drop]
   congr 1
   omega
theorem insN_map {α β:Type} (f:α→β) (l:List α) (k:Nat) (x:α):(insN l k x).map f=insN (l.map f) k (f x):=by simp [insN]
theorem delN_map {α β:Type} (f:α→β) (l:List α) (k:Nat):(delN l k).map f=delN (l.map f) k:=by simp [delN]
theorem insN_perm {α:Type} (l:List α) (k:Nat) (x:α):(insN l k x).Perm (x::l):=by
 unfold insN
 exact (List.perm_middle).trans (by rw [List.take_append_drop])
theorem delN_perm {α:Type} {l:List α} {k:Nat} {x:α} (h:l[k]?=some x):(x::delN l k).Perm l:=by
 obtain ⟨hk,hx⟩:=List.getElem?_eq_some_iff.1 h
 have e:l=l.take k++x::l.drop (k+1):=by
  rw [←hx,←List.drop_eq_getElem_cons hk,List.take_append_drop]
 unfold delN
 exact (List.perm_middle.symm).trans (by rw [←e])
theorem insN_getD (l:List Bool) {k:Nat} (x:Bool) (h:k≤l.length) (j:Nat):(insN l k x).getD j false=if j < k then l.getD j false else if j=k then x else l.getD (j - 1) false:=by
 rw [List.getD_eq_getElem?_getD,insN_get l x h]
 split
 · rw [List.getD_eq_getElem?_getD]
 · split
   · rfl
   · rw [List.getD_eq_getElem?_getD]
theorem delN_getD (l:List Bool) {k:Nat} (h:k < l.length) (j:Nat):(delN l k).getD j false=if j < k then l.getD j false else l.getD (j+1) false:=by
 rw [List.getD_eq_getElem?_getD,delN_get l h]
 split
 · rw [List.getD_eq_getElem?_getD]
 · rw [List.getD_eq_getElem?_getD]
theorem take_getD (l:List Bool) (n j:Nat):(l.take n).getD j false=(decide (j < n)&&l.getD j false):=by
 rw [List.getD_eq_getElem?_getD,List.getElem?_take]
 by_cases h:j < n
 · rw [if_pos h,List.getD_eq_getElem?_getD];simp [h]
 · rw [if_neg h];simp [h]
theorem drop_getD (l:List Bool) (n j:Nat):(l.drop n).getD j false=l.getD (n+j) false:=by
 rw [List.getD_eq_getElem?_getD,List.getElem?_drop,List.getD_eq_getElem?_getD]
end Go.Proofs.YtipaccakmndkgaaGreat
