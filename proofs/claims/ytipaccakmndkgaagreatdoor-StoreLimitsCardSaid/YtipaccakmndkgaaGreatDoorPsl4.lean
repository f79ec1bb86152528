/- The walks of num.Fixed and num.Of. Fixed lays the four bytes into new memory; Of returns what the plain function ofB computes. No conditions. A list with others put in, taken out, put in the place of as many (plain). No conditions. A region that draws its order, as in 'Loose3'; an operation that writes may come behind others that read what it writes, and need not yield. No conditions. What a snapshot is, as bytes; its sum (plain Lean). No conditions. -/
import Derived.Test.YtipaccakmndkgaaGreatDoorPsl3
import Derived.Test.YtipaccakmndkgaaGreatDoorPsl2
import Derived.Test.YtipaccakmndkgaaGreatDoorPsl1
set_option linter.unusedVariables false
set_option linter.unusedSimpArgs false
set_option maxRecDepth 100000
set_option maxHeartbeats 1000000
namespace Go.Proofs.YtipaccakmndkgaaGreatDoor
open Go.RowKit
theorem join_byte (acc x k:Nat) (h:acc < 256 ^ k) (hx:x < 256) (hk:k < 4):bits .or .u32 (acc:Int) ((x:Int)*2 ^(8*k)% 4294967296)=((acc+x*256 ^ k:Nat):Int):=by
 have e:(256:Nat)^ k=2 ^(8*k):=by rw [Nat.pow_mul]
 have hp:x*256 ^ k < 4294967296:=by
  have h1:x*256 ^ k≤255*256 ^ k:=Nat.mul_le_mul_right _ (by omega)
  have h2:256 ^ k≤256 ^ 3:=Nat.pow_le_pow_right (by omega) (by omega)
  omega
 have hacc:acc < 4294967296:=by
  have h2:256 ^ k≤256 ^ 3:=Nat.pow_le_pow_right (by omega) (by omega)
  omega
 have e2:((x:Int)*2 ^(8*k)% 4294967296)=((x*256 ^ k:Nat):Int):=by
  rw [e] at hp⊢
  have:(x:Int)*2 ^(8*k)=((x*2 ^(8*k):Nat):Int):=by push_cast;rfl
  rw [this]
  omega
 rw [e2,u32_or_nat _ _ hacc hp,Nat.or_comm,nat_join (8*k) (x*256 ^ k) acc (by rw [e];exact Nat.mul_mod_left _ _) (by rw [←e];exact h),Nat.add_comm]
theorem Fixed_own (n:Nat) (w:World):
 Calls Tryz.prog 76 #[.int .u32 (n:Int)] w fun e w'=>∃v,e=.returned v∧w'.ownsRow w.heap.size 5 1 v 4 ((fixB n).map bv)∧Below w.heap.size w w':=by
 obtain ⟨i0,hi0,hz0,hz1,hz2⟩:=info_parts num_u8_info
 go_enter Tryz.func76,Tryz.ntmps76
 go_wp2
 go_loopw [0,3,4] (fun x v i wr=>∃k:Nat,k≤4∧i=.int .i64 k∧x=.int .u32 ((n / 256 ^ k:Nat):Int)∧wr.ownsRow w.heap.size 5 1 v k ((fixN k n).map bv)∧Below w.heap.size w wr) (fun _ _ i _=>4 -(intOf i).toNat)
 case atStart=>exact ⟨0,Nat.zero_le _,rfl,by simp,World.ownsRow_nil _ _ _ _,Below.refl _ _⟩
 case round=>
  obtain ⟨k,hk,rfl,rfl,hown,hb⟩:=hrel
  have hb2:=hb.size
  by_cases hlt:k < 4
  · generalize hm:n / 256 ^ k=m
    have Hm:=lhd hm
    clear hm
    go_wp2_with (at_builtin;refine wpList_push _ rfl (.tmp 6) (.tmp 9) _ rfl w.heap.size 5 i0 (.int .u8 0) 1 1 Tryz.underlying23 hi0 hz0 hz1 hz2 rfl (by decide) u3 k _ rfl hown rfl rfl (by simp [Value.oneCell']) (by unfold maxLen;omega) (by omega) hb2 ?_;intro v2 w2 hown2 hg2 hs2 hat2)
    have hb3:=below_grown hb hown hg2 hb2
    refine ⟨⟨k+1,by omega,by go_num,int_eq ?_,?_,hb3⟩,by simp [intOf];omega⟩
    · rw [Nat.pow_succ,←Nat.div_div_eq_div_mul,Hm.out]
      push_cast
      rfl
    · have hv:Value.int .u8 ((m:Int)% 256)=bv (UInt8.ofNat (m % 256)):=by
       unfold bv
       congr 1
       simp [UInt8.toNat_ofNat']
      rw [hv] at hown2
      rw [fixN,Hm.out]
      simpa using hown2
  · have h4:k=4:=by omega
    subst h4
    go_wp2
    go_ret
    exact ⟨u3,rfl,hown,hb⟩
theorem Fixed_any (n:Nat) (w:World):
 Calls Tryz.prog 76 #[.int .u32 (n:Int)] w fun e w'=>∃A' c',e=.returned (.slice A' 4 c')∧Made w' w.heap.size 5 1 A' 4 c' ((fixB n).map bv)∧Below w.heap.size w w':=by
 refine (Fixed_own n w).mono fun e w' ⟨v,he,ho,hb⟩=>?_
 obtain ⟨A',c',rfl,hm⟩:=made_of_own ho
 exact ⟨A',c',he,hm,hb⟩
theorem ret_of {a:Nat} {v b:Int} {r:Nat×Int} (hv:v=(a:Int)) (h:r=(a,b)):Ending.returned (.tuple #[.int .u32 v,.int .i64 b])=Ending.returned (.tuple #[.int .u32 (r.1:Int),iv r.2]):=by subst h;subst hv;rfl
theorem Of_any (A:Option Addr) (m c:Nat) (l:List UInt8) (at_:Int) (B:Nat) (w:World) (hr:Rd w B 1 A m (l.map bv)) (hcl:m≤maxLen):
 Calls Tryz.prog 87 #[.slice A m c,.int .i64 at_] w fun e w'=>e=.returned (.tuple #[.int .u32 ((ofB l at_).1:Int),iv (ofB l at_).2])∧w=w':=by
 unfold maxLen at hcl
 have hlen:l.length=m:=by simpa using hr.1
 have Hlen:=lhd hlen
 have Hr:=lhd hr
 clear hlen hr
 by_cases hlo:at_ < 0
 · have hfin:ofB l at_=(0,2):=by rw [ofB,if_pos (.inl hlo)]
   have Hfin:=lhd hfin
   clear hfin
   go_enter Tryz.func87,Tryz.ntmps87
   go_wp2
   go_ret2
   exact ⟨ret_of rfl Hfin.out,rfl⟩
 by_cases hhi:(m:Int) < at_
 · have hfin:ofB l at_=(0,2):=by rw [ofB,if_pos (.inr (by rw [Hlen.out];exact hhi))]
   have Hfin:=lhd hfin
   clear hfin
   go_enter Tryz.func87,Tryz.ntmps87
   go_wp2
   go_ret2
   exact ⟨ret_of rfl Hfin.out,rfl⟩
 by_cases hsh:(m:Int) - at_ < 4
 · have hfin:ofB l at_=(0,4):=by rw [ofB,if_neg (by rw [Hlen.out];omega),if_pos (by rw [Hlen.out];omega)]
   have Hfin:=lhd hfin
   clear hfin
   go_enter Tryz.func87,Tryz.ntmps87
   go_wp2
   go_ret2
   exact ⟨ret_of rfl Hfin.out,rfl⟩
 obtain ⟨a,rfl⟩:=Int.eq_ofNat_of_zero_le (Int.not_lt.1 hlo)
 have hfin:ofB l (a:Int)=(ofN l a 4,0):=by rw [ofB,if_neg (by rw [Hlen.out];omega),if_neg (by rw [Hlen.out];omega)];rfl
 have Hfin:=lhd hfin
 have ham:a+4≤m:=by omega
 have hd1:decide ((a:Int) < 0)=false:=by simp
 have hd2:decide (m < a)=false:=by simp;omega
 have hd3:decide ((m:Int) -(a:Int) < 4)=false:=by simp;omega
 clear hfin hlo hhi hsh
 go_enter Tryz.func87,Tryz.ntmps87
 go_wp2
 go_loop [6,23] (fun n i=>∃k:Nat,k≤4∧i=.int .i64 k∧n=.int .u32 (ofN l a k:Int)) (fun _ i=>4 -(intOf i).toNat)
 case atStart=>exact ⟨0,Nat.zero_le _,rfl,rfl⟩
 case round=>
  obtain ⟨k,hk,rfl,rfl⟩:=hrel
  by_cases hlt:k < 4
  · obtain ⟨b,off,u,rfl,hbl,hu,hc⟩:=Hr.out.get (k:=a+k) (by omega)
    have hx:∃x,l[a+k]?=some x:=⟨l[a+k]'(by have:=Hlen.out;omega),List.getElem?_eq_getElem (by have:=Hlen.out;omega)⟩
    obtain ⟨x,hx⟩:=hx
    simp only [List.getElem?_map,hx,Option.map_some,Option.some.injEq] at hu
    subst hu
    unfold bv at hc
    have hs:ofN l a (k+1)=ofN l a k+x.toNat*256 ^ k:=by rw [ofN,hx];rfl
    have hlt2:=ofN_lt l a k
    have Hs:=lhd hs
    have Hlt2:=lhd hlt2
    generalize ofN l a k=acc at*
    have hx256:x.toNat < 256:=x.toNat_lt
    clear hx hs hlt2
    go_wp2
    refine ⟨⟨k+1,by omega,by go_num,int_eq ?_⟩,by simp [intOf];omega⟩
    rw [Hs.out]
    exact join_byte acc x.toNat k Hlt2.out hx256 hlt
  · have h4:k=4:=by omega
    subst h4
    go_wp2
    go_ret2
    exact ⟨ret_of rfl Hfin.out,rfl⟩
theorem Of_is (A:Option Addr) (m c:Nat) (l:List UInt8) (at_:Int) (B:Nat) (w:World) (n:Nat) (k:Int) (h:ofB l at_=(n,k)) (hr:Rd w B 1 A m (l.map bv)) (hcl:m≤maxLen):
 Calls Tryz.prog 87 #[.slice A m c,.int .i64 at_] w fun e w'=>e=.returned (.tuple #[.int .u32 (n:Int),.int .i64 k])∧w=w':=
 (Of_any A m c l at_ B w hr hcl).mono fun e w' ⟨he,hw⟩=>⟨by rw [he,h];rfl,hw⟩
end Go.Proofs.YtipaccakmndkgaaGreatDoor
namespace Go.Proofs.YtipaccakmndkgaaGreatDoor
def midT (t:List UInt8) (k:Nat) (m:List UInt8):List UInt8:=t.take k++(m++t.drop k)
theorem midT_nil (t:List UInt8) (k:Nat):midT t k []=t:=by
 unfold midT
 rw [List.nil_append,List.take_append_drop]
theorem midT_len (t:List UInt8) {k:Nat} (m:List UInt8) (hk:k≤t.length):(midT t k m).length=t.length+m.length:=by
 unfold midT
 rw [List.length_append,List.length_append,List.length_take,List.length_drop]
 omega
theorem midT_ins (t:List UInt8) {k:Nat} (m:List UInt8) (c:UInt8) (hk:k≤t.length):insN (midT t k m) (k+m.length) c=midT t k (m++ [c]):=by
 have hl:(t.take k).length=k:=by rw [List.length_take];omega
 unfold insN midT
 rw [List.take_append,List.drop_append,hl,Nat.add_sub_cancel_left,List.take_append_of_le_length (Nat.le_refl _),List.take_length,List.drop_append_of_le_length (Nat.le_refl _),List.drop_length,List.take_of_length_le (by omega),List.drop_of_length_le (by omega)]
 simp
end Go.Proofs.YtipaccakmndkgaaGreatDoor
namespace Go.Proofs.YtipaccakmndkgaaGreatDoor
open Go.RowKit Go
section
variable {P : Program} {ops : Array Oper} {Q : Exit → Act → World → Prop} {md : Region.Mode}
def upB (md:Region.Mode) (ops:Array Oper):Nat→Nat→Nat→Bool
 | 0,_,_=>false
 | f+1,j,i=>match ops[j]? with
   | some o=>o.after.toList.any fun e=>Region.binds md e&&(e.on==i||upB md ops f e.on i)
   | none=>false
theorem upB_listed {listed:Array Bool} (hs:∀k p,ops[k]?=some p→listed.getD k false=true→∀e∈p.after,Region.binds md e=true→listed.getD e.on false=true):
 ∀f j i o,ops[j]?=some o→(∀e∈o.after,Region.binds md e=true→listed.getD e.on false=true)→upB md ops f j i=true→listed.getD i false=true:=by
 intro f
 induction f with
 | zero=>intro j i o _ _ h;cases h
 | succ f ih=>
   intro j i o ho ha h
   unfold upB at h
   rw [ho] at h
   obtain ⟨e,he,h2⟩:=List.any_eq_true.1 h
   simp only [Bool.and_eq_true,Bool.or_eq_true,beq_iff_eq] at h2
   have hl:=ha e (Array.mem_toList_iff.1 he) h2.1
   rcases h2.2 with h3 | h3
   · rw [←h3];exact hl
   · cases hp:ops[e.on]? with
     | none=>
       exfalso
       cases f with
       | zero=>cases h3
       | succ f=>unfold upB at h3;rw [hp] at h3;cases h3
     | some p=>exact ih e.on i p hp (hs e.on p hp hl) h3
structure Loose7 (md:Region.Mode) (ops:Array Oper) (C:World→Prop) (U:Nat→World→Prop) (V:Nat→Value→World→Prop) (a0:Act) (listed:Array Bool) (a:Act) (w:World):Prop where
 world:C w
 pre:∀j o,ops[j]?=some o→listed.getD j false=false→U j w
 size:a.tmps.size=a0.tmps.size
 defers:a.defers=a0.defers
 old:∀t,(∀k p,ops[k]?=some p→p.dst=some t→listed.getD k false=false)→a.tmps.getD t undef=a0.tmps.getD t undef
 val:∀i o,ops[i]?=some o→listed.getD i false=true→∃v,(∀d,o.dst=some d→a.tmps.getD d undef=v)∧V i v w
 shut:∀k p,ops[k]?=some p→listed.getD k false=true→∀e∈p.after,Region.binds md e=true→listed.getD e.on false=true
theorem wpAny_loose7 (C:World→Prop) (S:Nat→World→World→Prop) (U:Nat→World→Prop) (V:Nat→Value→World→Prop) (a0:Act)
 (W0:World) (hlaid:laidB md ops a0.tmps.size=true) (hC0:C W0) (hU0:∀i,U i W0) (hC:∀j w w',C w→S j w w'→C w') (hU:∀i j w w',i≠j→upB md ops ops.size j i=false→U i w→C w→S j w w'→U i w')
 (hstab:∀i j v w w',i≠j→aftB md ops i j=false→V i v w→C w→S j w w'→V i v w')
 (hstep:∀j o,ops[j]?=some o→StepOk3 P ops Q md C S U V a0 j o)
 (hend:∀a w,C w→a.tmps.size=a0.tmps.size→a.defers=a0.defers→
  (∀t,(∀(k:Nat) (p:Oper),ops[k]?=some p→p.dst≠some t)→a.tmps.getD t undef=a0.tmps.getD t undef)→
  (∀i o,ops[i]?=some o→∃v,(∀d,o.dst=some d→a.tmps.getD d undef=v)∧V i v w)→Q .normal a w):
 wpAny P md ops Q ops.size (Array.replicate ops.size false) a0 W0:=by
 have done:∀listed a w,listed.size=ops.size→(∀i,i < ops.size→listed.getD i false=true)→Loose7 md ops C U V a0 listed a w→Q .normal a w:=by
  intro listed a w hl hall h
  refine hend a w h.world h.size h.defers (fun t ht=>h.old t fun k p hp hd=>absurd hd (ht k p hp)) fun i o ho=>h.val i o ho (hall i (Array.getElem?_eq_some_iff.1 ho).1)
 have none_ready:∀listed:Array Bool,listed.size=ops.size→Region.ready md ops listed= []→∀i,i < ops.size→listed.getD i false=true:=by
  intro listed hl hr i
  induction i using Nat.strongRecOn with
  | _ i ih=>
    intro hi
    cases hc:listed.getD i false with
    | true=>rfl
    | false=>
      exfalso
      have hm:i∈Region.ready md ops listed:=by
        refine mem_ready.2 ⟨?_,ops[i],Array.getElem?_eq_getElem hi,fun e he hb=>?_⟩
        · have hi':i < listed.size:=by omega
          simp [hi'] at hc⊢
          exact hc
        · have:=(laidB_at hlaid (Array.getElem?_eq_getElem hi)).1 e he hb
          exact ih e.on this (by omega)
      rw [hr] at hm
      cases hm
 have main:∀fuel listed a w,listed.size=ops.size→listed.toList.count false≤fuel→Loose7 md ops C U V a0 listed a w→wpAny P md ops Q fuel listed a w:=by
  intro fuel
  induction fuel with
  | zero=>
    intro listed a w hl hc h
    have hall:∀i,i < ops.size→listed.getD i false=true:=by
        intro i hi
        have hi':i < listed.size:=by omega
        cases hv:listed.getD i false with
        | true=>rfl
        | false=>
          exfalso
          have:false∈listed.toList:=by
           simp [hi'] at hv
           exact hv ▸(by simp)
          have:=List.count_pos_iff.2 this
          omega
    refine ⟨?_,done listed a w hl hall h⟩
    cases hr:Region.ready md ops listed with
    | nil=>rfl
    | cons i l=>
      exfalso
      have hi:i∈Region.ready md ops listed:=by rw [hr];exact List.mem_cons_self ..
      obtain ⟨h0,o,ho,_⟩:=mem_ready.1 hi
      have hlt:i < ops.size:=(Array.getElem?_eq_some_iff.1 ho).1
      have h1:=hall i hlt
      have hi':i < listed.size:=by omega
      simp [hi'] at h0 h1
      rw [h0] at h1
      cases h1
  | succ fuel ih=>
    intro listed a w hl hc h
    refine ⟨fun hr=>done listed a w hl (none_ready listed hl hr) h,fun j hj=>?_⟩
    obtain ⟨h0,o,ho,haft⟩:=mem_ready.1 hj
    have hlt:j < ops.size:=(Array.getElem?_eq_some_iff.1 ho).1
    have hjl:j < listed.size:=by omega
    have h0':listed.getD j false=false:=by simp [hjl] at h0⊢;exact h0
    refine hstep j o ho a w h.world (h.pre j o ho h0') h.size h.defers (fun t ht=>h.old t fun k p hp hd=>?_) (fun e he hb p d hp hd=>by obtain ⟨v,h1,h2⟩:=h.val e.on p hp (haft e he hb);rw [h1 d hd];exact h2) _ fun v w' hS hV=>?_
    · rcases oldB_at ht hp hd with rfl |⟨e,he,hb,heq⟩
      · exact h0'
      · cases hk:listed.getD k false with
        | false=>rfl
        | true=>
          have:=h.shut k p hp hk e he hb
          rw [heq,h0'] at this
          cases this
    · refine ih _ _ _ (by simpa using hl) ?_ ?_
      · have hv:listed.toList[j]'(by simpa using hjl)=false:=by simp [hjl] at h0'⊢;exact h0'
        rw [Array.toList_setIfInBounds,List.count_set (by simpa using hjl),hv]
        simp
        have hm:false∈listed.toList:=hv ▸ List.getElem_mem _
        have:=List.count_pos_iff.2 hm
        rw [←Array.count_toList]
        omega
      · have hsz:(a.put o.dst v).tmps.size=a0.tmps.size:=by
          rw [←h.size]
          cases o.dst with
          | none=>rfl
          | some d=>simp [Act.put]
        refine ⟨hC j w w' h.world hS,fun i p hp hi=>?_,hsz,?_,fun t ht=>?_,fun i p hp hi=>?_,fun k p hp hk e he hb=>?_⟩
        · have hji:i≠j:=fun e=>by
           rw [e,getD_set_same _ _ hjl] at hi
           cases hi
          rw [getD_set_ne false hji.symm] at hi
          refine hU i j w w' hji ?_ (h.pre i p hp hi) h.world hS
          cases hup:upB md ops ops.size j i with
          | false=>rfl
          | true=>
            have:=upB_listed h.shut _ j i o ho haft hup
            rw [hi] at this
            cases this
        · rw [←h.defers]
          cases o.dst <;> rfl
        · have hne:o.dst≠some t:=fun hd=>by
           have:=ht j o ho hd
           rw [getD_set_same _ _ hjl] at this
           cases this
          have hold:=h.old t fun k p hp hd=>by
           have:=ht k p hp hd
           cases hk:listed.getD k false with
           | false=>rfl
           | true=>
             by_cases hjk:j=k
             · subst hjk;rw [h0'] at hk;cases hk
             · rw [getD_set_ne false hjk,hk] at this;cases this
          rw [←hold]
          cases hod:o.dst with
          | none=>rfl
          | some d=>
            have hdt:d≠t:=fun h=>hne (by rw [hod,h])
            simp [Act.put,Array.getD_eq_getD_getElem?,hdt]
        · rcases getD_set_or _ _ _ hi with rfl | hi1
          · rw [ho] at hp
            injection hp with hp
            subst hp
            refine ⟨v,fun d hd=>?_,hV⟩
            have hdl:=((laidB_at hlaid ho).2 d hd).1
            rw [hd]
            have:d < a.tmps.size:=by rw [h.size];exact hdl
            simp [Act.put,Array.getD_eq_getD_getElem?,this]
          · by_cases hij:i=j
            · subst hij;rw [h0'] at hi1;cases hi1
            obtain ⟨u,hu,hv⟩:=h.val i p hp hi1
            have haf:aftB md ops i j=false:=by
              cases hc:aftB md ops i j with
              | false=>rfl
              | true=>
                exfalso
                unfold aftB at hc
                rw [hp] at hc
                obtain ⟨e,he,h2⟩:=List.any_eq_true.1 hc
                simp only [Bool.and_eq_true,beq_iff_eq] at h2
                have:=h.shut i p hp hi1 e (Array.mem_toList_iff.1 he) h2.1
                rw [h2.2,h0'] at this
                cases this
            refine ⟨u,fun d hd=>?_,hstab _ _ _ _ _ hij haf hv h.world hS⟩
            rw [←hu d hd]
            cases hod:o.dst with
            | none=>rfl
            | some d'=>
              have hdt:d'≠d:=fun h=>hij (((laidB_at hlaid ho).2 d' hod).2 i p hp (h ▸ hd))
              simp [Act.put,Array.getD_eq_getD_getElem?,hdt]
        · rcases getD_set_or _ _ _ hk with rfl | hk
          · rw [ho] at hp
            injection hp with hp
            subst hp
            have h1:=haft e he hb
            by_cases hje:k=e.on
            · rw [←hje];exact getD_set_same _ _ hjl _
            · rw [getD_set_ne false hje];exact h1
          · have h1:=h.shut k p hp hk e he hb
            by_cases hje:j=e.on
            · rw [←hje];exact getD_set_same _ _ hjl _
            · rw [getD_set_ne false hje];exact h1
 refine main _ _ _ _ (by simp) (by simp) ⟨hC0,fun j _ _ _=>hU0 j,rfl,rfl,fun _ _=>rfl,fun i o ho hi=>?_,fun k p hp hk=>?_⟩
 · have hlt:i < ops.size:=(Array.getElem?_eq_some_iff.1 ho).1
   simp [hlt] at hi
 · have hlt:k < ops.size:=(Array.getElem?_eq_some_iff.1 hp).1
   simp [hlt] at hk
theorem wpAny_loose8 (ds:List Nat) (C:World→Prop) (S:Nat→World→World→Prop) (U:Nat→World→Prop) (V:Nat→Value→World→Prop) (a0:Act) (W0:World)
 (hds:ops.toList.filterMap (·.dst)=ds)
 (hlaid:laidB md ops a0.tmps.size=true) (hC0:C W0) (hU0:∀i,U i W0) (hC:∀j w w',C w→S j w w'→C w') (hU:∀i j w w',i≠j→upB md ops ops.size j i=false→U i w→C w→S j w w'→U i w')
 (hstab:∀i j v w w',i≠j→aftB md ops i j=false→V i v w→C w→S j w w'→V i v w')
 (hstep:∀j o,ops[j]?=some o→StepOk3 P ops Q md C S U V a0 j o)
 (hend:∀(ev:Operand→Value) w,C w→(∀i d,((ops[i]?).bind (·.dst))=some d→V i (ev (.tmp d)) w)→(∀i,i < ops.size→∃v,V i v w)→Q .normal (putsOf ev ds a0) w):
 wpAny P md ops Q ops.size (Array.replicate ops.size false) a0 W0:=by
 refine wpAny_loose7 C S U V a0 W0 hlaid hC0 hU0 hC hU hstab hstep fun a w hS hsz hdf hold hval=>?_
 have h1:=hend a.eval w hS (fun i d hd=>by
  cases ho:ops[i]? with
  | none=>rw [ho] at hd;cases hd
  | some o=>
    rw [ho] at hd
    obtain ⟨v,h1,h2⟩:=hval i o ho
    have:=h1 d hd
    change V i (a.tmps.getD d undef) w
    rw [this]
    exact h2) (fun i hi=>by
  obtain ⟨v,_,h2⟩:=hval i _ (Array.getElem?_eq_getElem hi)
  exact ⟨v,h2⟩)
 rw [←act_puts a a0 ds hsz hdf fun t ht=>hold t fun k p hp hd=>ht ?_] at h1
 · exact h1
 · rw [←hds]
   exact List.mem_filterMap.2 ⟨p,Array.mem_toList_iff.2 (Array.mem_of_getElem? hp),hd⟩
end
def KStep (F:Nat→Prop) (J j:Nat) (w w':World):Prop:=(j=J→Keep F w w')∧(j≠J→Grow w w')
theorem kstep_any {F:Nat→Prop} {J j:Nat} {w w':World} (h:KStep F J j w w'):Keep F w w':=by
 by_cases hj:j=J
 · exact h.1 hj
 · exact Keep.of_below (h.2 hj)
theorem kstep_grow {F:Nat→Prop} {J j:Nat} {w w':World} (h:Grow w w'):KStep F J j w w':=⟨fun _=>Keep.of_below h,fun _=>h⟩
theorem kq {F:Nat→Prop} {J j:Nat} {w:World} {V Q:Value→World→Prop} (hK:∀v w',KStep F J j w w'→V v w'→Q v w') {v:Value} (h:V v w):Q v w:=hK v w (kstep_grow (Below.refl _ _)) h
theorem kstep_keep {F:Nat→Prop} {J:Nat} {w w':World} (h:Keep F w w'):KStep F J J w w':=⟨fun _=>h,fun e=>absurd rfl e⟩
def StbK (F:Nat→Prop) (p:Value→World→Prop):Prop:=∀v w w',p v w→Keep F w w'→p v w'
theorem stbk_is (F:Nat→Prop) (c:Value):StbK F (is c):=fun _ _ _ h _=>h
theorem stbk_all {F:Nat→Prop} {l:List (Value→World→Prop)} (h:∀p∈l,StbK F p):∀i v w w',Vs l i v w→Keep F w w'→Vs l i v w':=by
 intro i v w w' hv hk
 unfold Vs at hv⊢
 rw [List.getD_eq_getElem?_getD] at hv⊢
 cases hl:l[i]? with
 | none=>simp
 | some p=>rw [hl] at hv;simp only [Option.getD_some] at hv⊢;exact h p (List.mem_of_getElem? hl) v w w' hv hk
def VsJ (J:Nat) (pJ:Value→World→Prop) (l:List (Value→World→Prop)) (i:Nat):Value→World→Prop:=if i=J then pJ else Vs l i
theorem wpAny_keep {P:Program} {ops:Array Oper} {Q:Exit→Act→World→Prop} {md:Region.Mode} (ds:List Nat) (F:Nat→Prop) (J:Nat) (rd:List Nat) (pre:World→Prop) (pJ:Value→World→Prop) (l:List (Value→World→Prop)) (a0:Act) (W0:World)
 (hds:ops.toList.filterMap (·.dst)=ds) (hlaid:laidB md ops a0.tmps.size=true)
 (hrd:(rd.all fun i=>i==J||upB md ops ops.size J i)=true)
 (hp0:pre W0) (hp:∀w w',pre w→Keep F W0 w→Grow w w'→pre w') (hJ:Stb pJ) (hst:∀p∈l,StbK F p)
 (hstep:∀j o,ops[j]?=some o→StepOk3 P ops Q md (Keep F W0) (KStep F J) (fun i w=>rd.contains i=true→pre w) (VsJ J pJ l) a0 j o)
 (hend:∀(ev:Operand→Value) w,Keep F W0 w→(∀i d,((ops[i]?).bind (·.dst))=some d→VsJ J pJ l i (ev (.tmp d)) w)→(∀i,i < ops.size→∃v,VsJ J pJ l i v w)→Q .normal (putsOf ev ds a0) w):
 wpAny P md ops Q ops.size (Array.replicate ops.size false) a0 W0:=by
 refine wpAny_loose8 ds (Keep F W0) (KStep F J) (fun i w=>rd.contains i=true→pre w) (VsJ J pJ l) a0 W0 hds hlaid (Keep.refl _ _) (fun _ _=>hp0) (fun j w w' h k=>h.trans (kstep_any k)) (fun i j w w' hij hup hi hC k hir=>?_) (fun i j v w w' hij _ hv _ k=>?_) hstep hend
 · by_cases hj:j=J
   · exfalso
     subst hj
     have h2:=List.all_eq_true.1 hrd i (by simpa using hir)
     simp only [hup,Bool.or_false,beq_iff_eq] at h2
     exact hij h2
   · exact hp w w' (hi hir) hC (k.2 hj)
 · unfold VsJ at hv⊢
   by_cases hi:i=J
   · rw [if_pos hi] at hv⊢
     exact hJ v w w' hv (k.2 fun e=>hij (hi.trans e.symm))
   · rw [if_neg hi] at hv⊢
     exact stbk_all hst i v w w' hv (kstep_any k)
theorem own_keepF {F:Nat→Prop} {w w':World} {base sz n:Nat} {e:TypeId} {v:Value} {xs:List Value} (h:w.ownsRow base e sz v n xs) (k:Keep F w w') (hf:∀b,F b→b < base):w'.ownsRow base e sz v n xs:=by
 refine ⟨h.1,?_⟩
 rcases h.2 with h1 |⟨g,cap,cur,h1,h2,h3,h4⟩
 · exact .inl h1
 · exact .inr ⟨g,cap,cur,h1,h2,(k.block g (lt_of_block h3) (fun f=>by have:=hf g f;omega)).trans h3,h4⟩
theorem Made.keepF {F:Nat→Prop} {w w':World} {base sz n c:Nat} {e:TypeId} {A:Option Addr} {xs:List Value} (h:Made w base e sz A n c xs) (k:Keep F w w') (hf:∀b,F b→b < base):Made w' base e sz A n c xs:=
 ⟨own_keepF h.own k hf,Rd.of_own (own_keepF h.own k hf),h.cap,h.max⟩
theorem Made.mono {w:World} {B B' sz n c:Nat} {e:TypeId} {A:Option Addr} {xs:List Value} (h:Made w B e sz A n c xs) (hB:B'≤B):Made w B' e sz A n c xs:=⟨own_mono h.own hB,h.rd,h.cap,h.max⟩
def madeV (B:Nat) (e:TypeId) (sz n:Nat) (xs:List Value):Value→World→Prop:=fun v w=>∃A c,v=.slice A n c∧Made w B e sz A n c xs
theorem stbk_made {F:Nat→Prop} {B:Nat} (hf:∀b,F b→b < B) (e:TypeId) (sz n:Nat) (xs:List Value):StbK F (madeV B e sz n xs):=fun _ _ _ ⟨A,c,h1,h2⟩ k=>⟨A,c,h1,h2.keepF k hf⟩
def newBk (F:Nat→Prop) (e:TypeId) (cs:Array Value) (mk:Nat→Value):Value→World→Prop:=fun v w=>∃g,v=mk g∧Bk w g e cs∧¬F g
theorem stbk_newBk (F:Nat→Prop) (e:TypeId) (cs:Array Value) (mk:Nat→Value):StbK F (newBk F e cs mk):=fun _ _ _ ⟨g,h1,h2,h3⟩ k=>⟨g,h1,k.bk h2 h3,h3⟩
def anyV:Value→World→Prop:=fun _ _=>True
theorem stbk_any (F:Nat→Prop):StbK F anyV:=fun _ _ _ _ _=>trivial
end Go.Proofs.YtipaccakmndkgaaGreatDoor
namespace Go.Proofs.YtipaccakmndkgaaGreatDoor
def crcStep (s:Nat):Nat:=if s % 2=1 then (s / 2)^^^ 3988292384 else s / 2
def crcIt:Nat→Nat→Nat
 | 0,s=>s
 | k+1,s=>crcStep (crcIt k s)
def crcTab (i:Nat):Nat:=crcIt 8 i
def crcGo:List UInt8→Nat→Nat
 | [],s=>s
 | c::r,s=>crcGo r (crcTab ((s % 256)^^^ c.toNat)^^^(s / 256))
def crcMore (s:Nat) (b:List UInt8):Nat:=4294967295 - crcGo b (4294967295 - s)
def crcB (b:List UInt8):Nat:=crcMore 0 b
theorem crcStep_lt {s:Nat} (h:s < 4294967296):crcStep s < 4294967296:=by
 unfold crcStep
 split
 · exact Nat.xor_lt_two_pow (n:=32) (by omega) (by omega)
 · omega
theorem crcIt_lt {s:Nat} (h:s < 4294967296):∀k,crcIt k s < 4294967296
 | 0=>h
 | k+1=>crcStep_lt (crcIt_lt h k)
theorem crcTab_lt {i:Nat} (h:i < 256):crcTab i < 4294967296:=crcIt_lt (by omega) 8
theorem crc_in {s:Nat} (h:s < 4294967296) (c:UInt8):(s % 256)^^^ c.toNat < 256:=Nat.xor_lt_two_pow (n:=8) (by omega) c.toNat_lt
theorem crc_next {s:Nat} (h:s < 4294967296) (c:UInt8):crcTab ((s % 256)^^^ c.toNat)^^^(s / 256) < 4294967296:=
 Nat.xor_lt_two_pow (n:=32) (crcTab_lt (crc_in h c)) (by omega)
theorem crcGo_lt:∀(b:List UInt8) (s:Nat),s < 4294967296→crcGo b s < 4294967296
 | [],_,h=>h
 | c::r,s,h=>crcGo_lt r _ (crc_next h c)
theorem crcGo_snoc:∀(b:List UInt8) (c:UInt8) (s:Nat),crcGo (b++ [c]) s=crcTab ((crcGo b s % 256)^^^ c.toNat)^^^(crcGo b s / 256)
 | [],_,_=>rfl
 | d::r,c,s=>crcGo_snoc r c _
theorem crcB_lt (b:List UInt8):crcB b < 4294967296:=by
 unfold crcB crcMore
 have:=crcGo_lt b (4294967295 - 0) (by omega)
 omega
def partB (b:List UInt8):List UInt8:=encB b.length++(b++fixB (crcB b))
def markB:List UInt8:= [83,75,82,49]
def secB (rs:List Nat) (rate N:Nat):List UInt8:=(List.range (N / rate+1)).flatMap fun k=>encB (rs.idxOf (k*rate))
def symsI (L:List Nat):List Int:=L.map fun n:Nat=>(n:Int)
def firstB (L:List Nat):List UInt8:=runBytes (runsOf (symsI L))
def bodyB (L rs:List Nat) (most rate N:Nat):List UInt8:=markB++(encAll [most,rate,N]++(partB (firstB L)++partB (secB rs rate N)))
def snapB (L rs:List Nat) (most rate N:Nat):List UInt8:=bodyB L rs most rate N++fixB (crcB (bodyB L rs most rate N))
theorem num_at {b a r:List UInt8} {n at_ to:Nat} (h:b=a++(encB n++r)) (ha:a.length=at_) (ht:at_+(encB n).length=to) (hn:n < 18446744073709551616):getNB b (at_:Int)=(n,(to:Int),0):=by
 rw [h,←ht,←ha]
 exact getNB_at a r n hn
structure SnAt (body:List UInt8) (most rate N:Nat) (f s:List UInt8) (p1 p2 p3 p4 p5:Nat):Prop where
 e1:body=markB++(encB most++(encB rate++(encB N++(partB f++partB s))))
 h1:4+(encB most).length=p1
 h2:p1+(encB rate).length=p2
 h3:p2+(encB N).length=p3
 h4:p3+(partB f).length=p4
 h5:p4+(partB s).length=p5
theorem bodyB_eq (L rs:List Nat) (most rate N:Nat):bodyB L rs most rate N=markB++(encB most++(encB rate++(encB N++(partB (firstB L)++partB (secB rs rate N))))):=by
 unfold bodyB
 simp [encAll]
theorem SnAt.of (L rs:List Nat) (most rate N:Nat):∃p1 p2 p3 p4 p5,SnAt (bodyB L rs most rate N) most rate N (firstB L) (secB rs rate N) p1 p2 p3 p4 p5∧(bodyB L rs most rate N).length=p5:=by
 refine ⟨_,_,_,_,_,⟨bodyB_eq L rs most rate N,rfl,rfl,rfl,rfl,rfl⟩,?_⟩
 rw [bodyB_eq]
 simp [markB]
 omega
theorem SnAt.n1 {body f s:List UInt8} {most rate N p1 p2 p3 p4 p5:Nat} (h:SnAt body most rate N f s p1 p2 p3 p4 p5) (hm:most < 18446744073709551616):getNB body 4=(most,(p1:Int),0):=
 num_at (a:=markB) h.e1 rfl h.h1 hm
theorem SnAt.n2 {body f s:List UInt8} {most rate N p1 p2 p3 p4 p5:Nat} (h:SnAt body most rate N f s p1 p2 p3 p4 p5) (hm:rate < 18446744073709551616):getNB body (p1:Int)=(rate,(p2:Int),0):=
 num_at (a:=markB++encB most) (r:=encB N++(partB f++partB s)) (by rw [h.e1];simp) (by rw [List.length_append];have:=h.h1;have:markB.length=4:=rfl;omega) h.h2 hm
theorem SnAt.n3 {body f s:List UInt8} {most rate N p1 p2 p3 p4 p5:Nat} (h:SnAt body most rate N f s p1 p2 p3 p4 p5) (hm:N < 18446744073709551616):getNB body (p2:Int)=(N,(p3:Int),0):=
 num_at (a:=markB++(encB most++encB rate)) (r:=partB f++partB s) (by rw [h.e1];simp) (by rw [List.length_append,List.length_append];have:=h.h1;have:=h.h2;have:markB.length=4:=rfl;omega) h.h3 hm
theorem partB_len (b:List UInt8):(partB b).length=(encB b.length).length+(b.length+4):=by
 unfold partB
 rw [List.length_append,List.length_append,fixB_len]
theorem SnAt.f1 {body f s:List UInt8} {most rate N p1 p2 p3 p4 p5:Nat} (h:SnAt body most rate N f s p1 p2 p3 p4 p5) (hm:f.length < 18446744073709551616):
 ∃q:Nat,getNB body (p3:Int)=(f.length,(q:Int),0)∧q+(f.length+4)=p4∧(body.drop q).take f.length=f∧p4≤body.length:=by
 have ea:body=(markB++(encB most++(encB rate++encB N)))++(encB f.length++((f++fixB (crcB f))++partB s)):=by
  rw [h.e1]
  simp [partB]
 have hla:(markB++(encB most++(encB rate++encB N))).length=p3:=by
  simp only [List.length_append]
  have:=h.h1
  have:=h.h2
  have:=h.h3
  have:markB.length=4:=rfl
  omega
 refine ⟨p3+(encB f.length).length,num_at ea hla rfl hm,?_,?_,?_⟩
 · have:=h.h4
   rw [partB_len] at this
   omega
 · rw [ea,←List.append_assoc,List.drop_left' (by rw [List.length_append,hla]),List.append_assoc,List.take_left' rfl]
 · have h5:=h.h5
   have e:=congrArg List.length h.e1
   simp only [List.length_append] at e
   have h1:=h.h1
   have h2:=h.h2
   have h3:=h.h3
   have h4:=h.h4
   have hm4:markB.length=4:=rfl
   omega
theorem SnAt.f2 {body f s:List UInt8} {most rate N p1 p2 p3 p4 p5:Nat} (h:SnAt body most rate N f s p1 p2 p3 p4 p5) (hm:s.length < 18446744073709551616):
 ∃q:Nat,getNB body (p4:Int)=(s.length,(q:Int),0)∧q+(s.length+4)=p5∧(body.drop q).take s.length=s∧p5=body.length:=by
 have ea:body=(markB++(encB most++(encB rate++(encB N++partB f))))++(encB s.length++((s++fixB (crcB s))++ [])):=by
  rw [h.e1]
  simp [partB]
 have hla:(markB++(encB most++(encB rate++(encB N++partB f)))).length=p4:=by
  simp only [List.length_append]
  have:=h.h1
  have:=h.h2
  have:=h.h3
  have:=h.h4
  have:markB.length=4:=rfl
  omega
 refine ⟨p4+(encB s.length).length,num_at ea hla rfl hm,?_,?_,?_⟩
 · have:=h.h5
   rw [partB_len] at this
   omega
 · rw [ea,←List.append_assoc,List.drop_left' (by rw [List.length_append,hla]),List.append_assoc,List.take_left' rfl]
 · have h5:=h.h5
   have e:=congrArg List.length h.e1
   simp only [List.length_append] at e
   have h1:=h.h1
   have h2:=h.h2
   have h3:=h.h3
   have h4:=h.h4
   have hm4:markB.length=4:=rfl
   omega
end Go.Proofs.YtipaccakmndkgaaGreatDoor
