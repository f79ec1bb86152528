/- Lemmas of the walk. Conditions: each its own. -/
import Derived.Test.YthldmddkfbijhaaGreatDoorPsr0
import Derived.Test.YthldmddkfbijhaaGreatDoorProg
set_option linter.all false
set_option maxRecDepth 100000
set_option maxHeartbeats 2000000
namespace Go.Proofs.YthldmddkfbijhaaGreatDoor
section
open Go.RowKit
theorem pB:(Tryz.prog.info? 4).map (fun i=>(i.zero,i.size,i.bytes))=some (some (.bool false),1,1):=by kernel_rfl
theorem tC (w:World):
 Calls Tryz.prog 142 #[.int .i64 268435456] w fun e w'=>e=.returned (.pointer (some ⟨w.heap.size,0,none⟩))/\Bk w' w.heap.size 221 #[.slice none 0 0,.slice none 0 0,.int .i64 268435456]/\Below w.heap.size w w':=by
 go_enter Tryz.func142,Tryz.ntmps142;go_wp2;go_ret;exact ⟨rfl,Bk.new _ _ _,bR.alloc nL _⟩
theorem aFk (ga:Nat) (w:World) (hb:Bk w ga 221 #[.slice none 0 0,.slice none 0 0,.int .i64 268435456]):
 Calls Tryz.prog 198 #[ga] w fun e w'=>e=.returned (.int .i64 0)/\Below w.heap.size w w':=by
 have c0:w.cell? ⟨ga,0,none⟩=some (.slice none 0 0):=(hb.cell 0).trans rfl;have c1:w.cell? ⟨ga,1,none⟩=some (.slice none 0 0):=(hb.cell 1).trans rfl;go_enter Tryz.func198,Tryz.ntmps198;go_wp2;go_quiet (fail);go_wp2;go_ret;exact ⟨rfl,below_drewN bR _⟩
theorem aEd {w:World} {g:Nat} {e:TypeId} {v:Value} (h:Bk w g e #[v]):Rd w w.heap.size 1 (some ⟨g,0,none⟩) 1 [v]:=by
 refine ⟨rfl,fun _=>⟨g,0,rfl,h.lt,fun i u hu=>?_⟩⟩;rw [zBi,h.cell i];rcases i with _ | i;exact hu
 · simp at hu
theorem aEY (ga:Nat) (w:World) (hb:Bk w ga 221 #[.slice none 0 0,.slice none 0 0,.int .i64 268435456]):
 Calls Tryz.prog 150 #[ga] w fun e w'=>e=.returned (.tuple #[.int .i64 0,.int .i64 0])/\Keep (fun b=>b=ga) w w'/\∃A c,Bk w' ga 221 #[.slice A 1 c,.slice none 0 0,.int .i64 268435456]/\Made w' w.heap.size 4 1 A 1 c [.bool true]:=by
 obtain ⟨i0,hi0,hz0,hz1,hz2⟩:=info_parts pB;have hgl:=hb.lt;obtain ⟨Hb,HW⟩:=hqq2 hb (Below.refl w.heap.size w);clear hb;go_enter Tryz.func150,Tryz.ntmps150;go_wp2;refine wp_region_any kR ?_;refine aO [10,11,12,13,14,15,16,9] Grow (Vs [is ga,is (.int .i64 0),is ga,is ga,is (.pointer (some ⟨ga,2,none⟩)),is (.int .i64 268435456),is (.bool false),is (.bool false)]) _ _ rfl kR bR (fun _ _=>Grow.trans) (eU tA2) ?_ ?_
 · refine aM ?_;refine sC (fun ev _ _ _ _ hold _ _ _ _ hK=>?_) ?_
   · have e0:ev (.tmp 0)=.pointer (some ⟨ga,0,none⟩):=hold 0 kR;go_simp;exact hK _ _ bR rfl
   refine sC (fun _ w5 hS _ _ _ hval _ _ _ hK=>?_) ?_
   · have e10:_=_:=hval 0 10 kR rfl;replace hS:Grow w w5:=⟨hS.os,hS.tape,hS.output,hS.size,hS.block⟩;go_simp;refine (aFk ga w5 (Hb.out.below hS Hb.out.lt)).mono ?_;rintro e w8 ⟨rfl,hb8⟩;exact hK _ _ hb8 rfl
   refine sC (fun ev _ _ _ _ hold _ _ _ _ hK=>?_) ?_
   · have e0:ev (.tmp 0)=.pointer (some ⟨ga,0,none⟩):=hold 0 kR;go_simp;exact hK _ _ bR rfl
   refine sC (fun _ _ _ _ _ _ hval _ _ _ hK=>?_) ?_
   · have e12:_=_:=hval 2 12 kR rfl;go_simp;exact hK _ _ bR rfl
   refine sC (fun _ _ _ _ _ _ hval _ _ _ hK=>?_) ?_
   · have e13:_=_:=hval 3 13 kR rfl;go_simp;exact hK _ _ bR rfl
   refine sC (fun _ w5 hS _ _ _ hval _ _ _ hK=>?_) ?_
   · have e14:_=_:=hval 4 14 kR rfl;replace hS:Grow w w5:=⟨hS.os,hS.tape,hS.output,hS.size,hS.block⟩;have c15:w5.cell? ⟨ga,2,none⟩=some (.int .i64 268435456):=((Hb.out.below hS Hb.out.lt).cell 2).trans rfl;go_simp;exact hK _ _ bR rfl
   refine sC (fun _ _ _ _ _ _ hval _ _ _ hK=>?_) ?_
   · have e11:_=_:=hval 1 11 kR rfl;have e15:_=_:=hval 5 15 kR rfl;go_simp;exact hK _ _ bR rfl
   refine sC (fun _ _ _ _ _ _ hval _ _ _ hK=>?_) ?_
   · have e16:_=_:=hval 6 16 kR rfl;go_simp;exact hK _ _ bR rfl
   exact aC
 · intro ev w6 hS hval;replace hS:Grow w w6:=⟨hS.os,hS.tape,hS.output,hS.size,hS.block⟩;have e9:ev (.tmp 9)=.bool false:=hval 7 9 rfl;simp only [aI,zq1,zq2,Act.put,zq3,zq4,zq5];rw [e9];clear hval;have Hb2:=lhd (Hb.out.below hS Hb.out.lt);have hsz2:=Below.size hS;have HS2:=lhd hS;have c1:w6.cell? ⟨ga,1,none⟩=some (.slice none 0 0):=(Hb2.out.cell 1).trans rfl;clear hS;have c0:w6.cell? ⟨ga,0,none⟩=some (.slice none 0 0):=(Hb2.out.cell 0).trans rfl;have f0:=Hb2.out.frozen 0;have hga6:ga < w6.heap.size:=oM;revert Hb2 hsz2 c0 c1 f0 HS2 hga6;generalize w6=W2;intro Hb2 hsz2 HS2 c1 c0 f0 hga6;have a0:=(World.cell?_alloc_lt W2 (Obj.cells #[.bool true] 4) ⟨ga,0,none⟩ hga6).trans c0;go_wp2_with (at_builtin;refine bP _ rfl (.tmp 53) (.tmp 54) _ rfl w.heap.size 4 i0 (.bool false) 1 1 Tryz.underlying175 hi0 hz0 hz1 hz2 rfl dC (.slice none 0 0) 0 [] rfl (World.ownsRow_nil _ _ _ _) rfl rfl (by simp [Value.oneCell']) (by unfold maxLen;omega) oM hsz2 ?_;intro v5 w5 hown5 hg5 hs5 hat5;rw [zBi,List.nil_append] at hown5;obtain ⟨A9,c9,rfl,hm9⟩:=aS hown5;have hB5:Below W2.heap.size W2 w5:=⟨hg5.os,hg5.tape,hg5.output,hg5.size,fun k hk=>hg5.block k hk (by simp [Value.ownBlock])⟩;have hb5:=Hb2.out.below hB5 hga6;have d0:w5.cell? ⟨ga,0,none⟩=some (.slice none 0 0):=(hb5.cell 0).trans rfl;have e0:=hb5.frozen 0);go_ret2;have hset:=Keep.setCell (F:=fun b=>b=ga) (Keep.refl (fun b=>b=ga) w5) (p:=⟨ga,0,none⟩) (.inl rfl) (.slice A9 1 c9);exact ⟨rfl,((Keep.of_below HS2.out).trans (Keep.of_below hB5)).trans hset,A9,c9,hb5.set 0 _,(hm9.mono oM).keepF hset (fun b hb=>by subst hb;exact hgl)⟩
def aG4 (S:World->World->Prop) (p:Value->World->Prop):Prop:=∀v w w',p v w->S w w'->p v w'
theorem gV (S:World->World->Prop) (c:Value):aG4 S (is c):=fun _ _ _ h _=>h
theorem iX (S:World->World->Prop):aG4 S cR:=fun _ _ _ _ _=>trivial
theorem cL {S:World->World->Prop} {l:List (Value->World->Prop)} (h:∀p∈l,aG4 S p):∀i v w w',Vs l i v w->S w w'->Vs l i v w':=by
 intro i v w w' hp hs;unfold Vs at hp⊢;rw [zAb] at hp⊢;rcases hl:l[i]? with _ | p;rw [hl] at hp;exact hp;rw [hl] at hp;exact h p (zAd hl) v w w' hp hs
end
section
open Go.RowKit Go
section
variable {P : Program} {ops : Array Oper} {Q : Exit -> Act -> World -> Prop} {md : Region.Mode}
def bV (n m:Nat):Array Bool:=((List.range m).map fun i=>decide (i < n)).toArray
theorem aBt (n m:Nat) (h:n<=m):(bV n m).toList.count false=m - n:=by
 unfold bV;rw [List.toList_toArray]
 induction m with
 | zero=>simp
 | succ m ih=>
   rw [List.range_succ,zAz,zCc];rcases zBe m n with hm | hm
   · have:n=m+1:=oM;subst this;have e:(List.map (fun i=>decide (i < m+1)) (List.range m)).count false=0:=(by rw [List.count_eq_zero];intro hc;obtain ⟨x,hx,h2⟩:=zAy.1 hc;have:=zCj.1 hx;simp at h2;omega);rw [e];simp
   rw [ih hm];have:¬(m < n):=oM;simp [this];omega
theorem bK {f:Nat} {listed:Array Bool} {a:Act} {w:World} (hr:Region.ready md ops listed= []) (hq:Q .normal a w):wpAny P md ops Q f listed a w:=by
 cases f with
 | zero=>exact ⟨hr,hq⟩
 | succ f=>exact ⟨fun _=>hq,fun i hi=>by rw [hr] at hi;cases hi⟩
theorem aQ {f:Nat} {listed:Array Bool} {a:Act} {w:World} {i:Nat} (hr:Region.ready md ops listed= [i]) (hq:wpOp P ops Q i (wpAny P md ops Q f (listed.setIfInBounds i true)) a w):wpAny P md ops Q (f+1) listed a w:=
 ⟨fun h=>(by rw [hr] at h;cases h),fun j hj=>(by rw [hr] at hj;cases List.mem_singleton.1 hj;exact hq)⟩
theorem wJ (n:Nat) (C:World->Prop) (S:Nat->World->World->Prop) (U:Nat->World->Prop) (V:Nat->Value->World->Prop) (a0:Act)
 (W0:World) (hn:n<=ops.size) (hlaid:jB md ops a0.tmps.size=true) (htail:((List.range ops.size).all fun k=>decide (k < n)||(List.range n).all fun i=>upB md ops ops.size k i)=true) (hC0:C W0) (hU0:∀i,U i W0) (hC:∀j w w',j < n->C w->S j w w'->C w')
 (hU:∀i j w w',j < n->i≠j->upB md ops ops.size j i=false->U i w->C w->S j w w'->U i w')
 (hstab:∀i j v w w',j < n->i≠j->vB md ops i j=false->V i v w->C w->S j w w'->V i v w')
 (hstep:∀j o,j < n->ops[j]?=some o->dH P ops Q md C S U V a0 j o)
 (hend:∀a w f,C w->a.tmps.size=a0.tmps.size->a.defers=a0.defers->
  (∀t,(∀(k:Nat) (p:Oper),k < n->ops[k]?=some p->p.dst≠some t)->a.tmps.getD t undef=a0.tmps.getD t undef)->
  (∀i o,i < n->ops[i]?=some o->∃v,(∀d,o.dst=some d->a.tmps.getD d undef=v)/\V i v w)->wpAny P md ops Q (ops.size - n+f) (bV n ops.size) a w):
 wpAny P md ops Q ops.size (Array.replicate ops.size false) a0 W0:=by
 have none_ready:∀listed:Array Bool,listed.size=ops.size->Region.ready md ops listed= []->∀i,i < ops.size->listed.getD i false=true:=by
  intro listed hl hr i
  induction i using Nat.strongRecOn with
  | _ i ih=>
    intro hi;cases hc:listed.getD i false with
    | true=>rfl
    | false=>
      exfalso;have hm:i∈Region.ready md ops listed:=(by refine mem_ready.2 ⟨?_,ops[i],zAq hi,fun e he hb=>?_⟩;have hi':i < listed.size:=oM;simp [hi'] at hc⊢;exact hc;have:=(dW hlaid (zAq hi)).1 e he hb;exact ih e.on this oM);rw [hr] at hm;cases hm
 have main:∀fuel listed a w,listed.size=ops.size->listed.toList.count false<=fuel->Loose7 md ops C U V a0 listed a w->(∀k,n<=k->listed.getD k false=false)->wpAny P md ops Q fuel listed a w:=by
  intro fuel
  induction fuel with
  | zero=>
    intro listed a w hl hc h ht0
    have hall:∀i,i < ops.size->listed.getD i false=true:=by
        intro i hi;have hi':i < listed.size:=oM;cases hv:listed.getD i false with
        | true=>rfl
        | false=>
          exfalso;have:false∈listed.toList:=(by simp [hi'] at hv;exact hv ▸(by simp));have:=List.count_pos_iff.2 this;omega
    have hnn:n=ops.size:=by
        rcases zBe n ops.size with h1 | h1
        · have h2:=hall n h1;rw [ht0 n nL] at h2;cases h2
        omega
    have he:listed=bV n ops.size:=by
        apply Array.ext
        · simp [bV,hl]
        intro i h1 h2;have h3:=hall i oM;simp [h1] at h3;simp [bV,h3];omega
    have h3:=hend a w 0 h.world h.size h.defers (fun t ht=>h.old t fun k p hp hd=>absurd hd (ht k p (by have:=(zAh.1 hp).1;omega) hp)) fun i o hi ho=>h.val i o ho (hall i (zAh.1 ho).1);rw [<-he,<-hnn,Nat.sub_self] at h3;exact h3
  | succ fuel ih=>
    intro listed a w hl hc h ht0;by_cases hall:∀i,i < n->listed.getD i false=true
    · have he:listed=bV n ops.size:=by
       apply Array.ext
       · simp [bV,hl]
       intro i h1 h2;rcases zBe i n with h4 | h4;have h3:=hall i h4;simp [h1] at h3;simp [bV,h3];exact h4;have h3:=ht0 i h4;simp [h1] at h3;simp [bV,h3];omega
      have hcount:ops.size - n<=fuel+1:=(by rw [he,aBt _ _ hn] at hc;exact hc);have h3:=hend a w (fuel+1 -(ops.size - n)) h.world h.size h.defers (fun t ht=>h.old t fun k p hp hd=>by
       rcases zBe k n with h4 | h4;exact absurd hd (ht k p h4 hp)
       · exact ht0 k h4) fun i o hi ho=>h.val i o ho (hall i hi)
      rw [<-he,show ops.size - n+(fuel+1 -(ops.size - n))=fuel+1 by omega] at h3;exact h3
    refine ⟨fun hr=>absurd (fun i hi=>none_ready listed hl hr i oM) hall,fun j hj=>?_⟩;obtain ⟨h0,o,ho,haft⟩:=mem_ready.1 hj;have hlt:j < ops.size:=(zAh.1 ho).1;have hjl:j < listed.size:=oM;have h0':listed.getD j false=false:=(by simp [hjl] at h0⊢;exact h0);have hjn:j < n:=(by rcases zBe j n with h4 | h4;exact h4;exfalso;refine hall fun i hi=>?_;have h5:=zBf.1 htail j (zCj.2 hlt);have h6:¬(j < n):=oM;simp only [h6,decide_false,Bool.false_or] at h5;exact kC h.shut _ j i o ho haft (zBf.1 h5 i (zCj.2 hi)));refine hstep j o hjn ho a w h.world (h.pre j o ho h0') h.size h.defers (fun t ht=>h.old t fun k p hp hd=>?_) (fun e he hb p d hp hd=>by obtain ⟨v,h1,h2⟩:=h.val e.on p hp (haft e he hb);rw [h1 d hd];exact h2) _ fun v w' hS hV=>?_
    · rcases vT ht hp hd with rfl |⟨e,he,hb,heq⟩;exact h0'
      · cases hk:listed.getD k false with
        | false=>rfl
        | true=>
          have:=h.shut k p hp hk e he hb;rw [heq,h0'] at this;cases this
    · refine ih _ _ _ (by simpa using hl) ?_ ?_ (fun k hk=>by rw [getD_set_ne false (by omega:j≠k)];exact ht0 k hk);have hv:listed.toList[j]'(by simpa using hjl)=false:=(by simp [hjl] at h0'⊢;exact h0');rw [Array.toList_setIfInBounds,List.count_set (by simpa using hjl),hv];simp;have hm:false∈listed.toList:=hv ▸ zBj _;have:=List.count_pos_iff.2 hm;rw [<-Array.count_toList];omega
      · have hsz:(a.put o.dst v).tmps.size=a0.tmps.size:=by
          rw [<-h.size];cases o.dst with
          | none=>rfl
          | some d=>simp [Act.put]
        refine ⟨hC j w w' hjn h.world hS,fun i p hp hi=>?_,hsz,?_,fun t ht=>?_,fun i p hp hi=>?_,fun k p hp hk e he hb=>?_⟩
        · have hji:i≠j:=fun e=>by rw [e,bO _ _ hjl] at hi;cases hi
          rw [getD_set_ne false hji.symm] at hi;refine hU i j w w' hjn hji ?_ (h.pre i p hp hi) h.world hS;cases hup:upB md ops ops.size j i with
          | false=>rfl
          | true=>
            have:=kC h.shut _ j i o ho haft hup;rw [hi] at this;cases this
        · rw [<-h.defers];cases o.dst <;> rfl
        · have hne:o.dst≠some t:=fun hd=>by have:=ht j o ho hd;rw [bO _ _ hjl] at this;cases this
          have hold:=h.old t fun k p hp hd=>by
           have:=ht k p hp hd;cases hk:listed.getD k false with
           | false=>rfl
           | true=>
             by_cases hjk:j=k
             · subst hjk;rw [h0'] at hk;cases hk
             · rw [getD_set_ne false hjk,hk] at this;cases this
          rw [<-hold];cases hod:o.dst with
          | none=>rfl
          | some d=>
            have hdt:d≠t:=fun h=>hne (by rw [hod,h]);simp [Act.put,zAm,hdt]
        · rcases eP _ _ _ hi with rfl | hi1
          · rw [ho] at hp;injection hp with hp;subst hp;refine ⟨v,fun d hd=>?_,hV⟩;have hdl:=((dW hlaid ho).2 d hd).1;rw [hd];have:d < a.tmps.size:=(by rw [h.size];exact hdl);simp [Act.put,zAm,this]
          · by_cases hij:i=j
            · subst hij;rw [h0'] at hi1;cases hi1
            obtain ⟨u,hu,hv⟩:=h.val i p hp hi1
            have haf:vB md ops i j=false:=by
              cases hc:vB md ops i j with
              | false=>rfl
              | true=>
                exfalso;unfold vB at hc;rw [hp] at hc;obtain ⟨e,he,h2⟩:=List.any_eq_true.1 hc;simp only [zBd,zCq] at h2;have:=h.shut i p hp hi1 e (Array.mem_toList_iff.1 he) h2.1;rw [h2.2,h0'] at this;cases this
            refine ⟨u,fun d hd=>?_,hstab _ _ _ _ _ hjn hij haf hv h.world hS⟩;rw [<-hu d hd];cases hod:o.dst with
            | none=>rfl
            | some d'=>
              have hdt:d'≠d:=fun h=>hij (((dW hlaid ho).2 d' hod).2 i p hp (h ▸ hd));simp [Act.put,zAm,hdt]
        rcases eP _ _ _ hk with rfl | hk;rw [ho] at hp;injection hp with hp;subst hp;have h1:=haft e he hb;by_cases hje:k=e.on;rw [<-hje];exact bO _ _ hjl _;rw [getD_set_ne false hje];exact h1;have h1:=h.shut k p hp hk e he hb;by_cases hje:j=e.on;rw [<-hje];exact bO _ _ hjl _;rw [getD_set_ne false hje];exact h1
 refine main _ _ _ _ (by simp) (by simp) ⟨hC0,fun j _ _ _=>hU0 j,rfl,rfl,fun _ _=>rfl,fun i o ho hi=>?_,fun k p hp hk=>?_⟩ (fun k hk=>by
  rw [zAm];rcases zBe k ops.size with h | h
  · simp [h]
  · rw [Array.getElem?_eq_none (by simpa using h)];rfl)
 · have hlt:i < ops.size:=(zAh.1 ho).1;simp [hlt] at hi
 · have hlt:k < ops.size:=(zAh.1 hp).1;simp [hlt] at hk
theorem uC (n:Nat) (ds:List Nat) (C:World->Prop) (S:Nat->World->World->Prop) (U:Nat->World->Prop) (V:Nat->Value->World->Prop) (a0:Act)
 (W0:World) (hds:(ops.toList.take n).filterMap (·.dst)=ds) (hn:n<=ops.size) (hlaid:jB md ops a0.tmps.size=true) (htail:((List.range ops.size).all fun k=>decide (k < n)||(List.range n).all fun i=>upB md ops ops.size k i)=true) (hC0:C W0) (hU0:∀i,U i W0) (hC:∀j w w',j < n->C w->S j w w'->C w')
 (hU:∀i j w w',j < n->i≠j->upB md ops ops.size j i=false->U i w->C w->S j w w'->U i w')
 (hstab:∀i j v w w',j < n->i≠j->vB md ops i j=false->V i v w->C w->S j w w'->V i v w')
 (hstep:∀j o,j < n->ops[j]?=some o->dH P ops Q md C S U V a0 j o)
 (hend:∀(ev:Operand->Value) w f,C w->(∀i d,i < n->((ops[i]?).bind (·.dst))=some d->V i (ev (.tmp d)) w)->wpAny P md ops Q (ops.size - n+f) (bV n ops.size) (aI ev ds a0) w):
 wpAny P md ops Q ops.size (Array.replicate ops.size false) a0 W0:=by
 refine wJ n C S U V a0 W0 hn hlaid htail hC0 hU0 hC hU hstab hstep fun a w f hS hsz hdf hold hval=>?_;have h1:=hend a.eval w f hS fun i d hi hd=>by
  cases ho:ops[i]? with
  | none=>rw [ho] at hd;cases hd
  | some o=>
    rw [ho] at hd;obtain ⟨v,h1,h2⟩:=hval i o hi ho;have:=h1 d hd;change V i (a.tmps.getD d undef) w;rw [this];exact h2
 rw [<-oB a a0 ds hsz hdf fun t ht=>hold t fun k p hk hp hd=>ht ?_] at h1;exact h1;rw [<-hds];refine List.mem_filterMap.2 ⟨p,?_,hd⟩;have hk2:(ops.toList.take n)[k]?=some p:=(by rw [zBs,zBx hk,Array.getElem?_toList];exact hp);exact zAd hk2
theorem bW {j:Nat} {o:Oper} {a:Act} {w:World} {K:Act->World->Prop} (ho:ops[j]?=some o) (hg:o.guard=none) (h:Oper.upon P o a K Q ((execOp a.eval o).run P w)):wpOp P ops Q j K a w:=by
 unfold wpOp;simp only [ho];have hw:Region.wanted o (yielded ops a.tmps)=true:=by unfold Region.wanted;rw [hg]
 rw [zBx hw];exact .inl h
end
theorem cH {P:Program} {ops:Array Oper} {Q:Exit->Act->World->Prop} {md:Region.Mode} (n:Nat) (ds:List Nat) (F:Nat->Prop) (J:Nat) (rd:List Nat) (pre:World->Prop) (pJ:Value->World->Prop) (l:List (Value->World->Prop)) (a0:Act) (W0:World)
 (hds:(ops.toList.take n).filterMap (·.dst)=ds) (hn:n<=ops.size) (hlaid:jB md ops a0.tmps.size=true) (htail:((List.range ops.size).all fun k=>decide (k < n)||(List.range n).all fun i=>upB md ops ops.size k i)=true)
 (hrd:(rd.all fun i=>i==J||upB md ops ops.size J i)=true)
 (hp0:pre W0) (hp:∀w w',pre w->Keep F W0 w->Grow w w'->pre w') (hJ:Stb pJ) (hst:∀p∈l,yS F p)
 (hstep:∀j o,j < n->ops[j]?=some o->dH P ops Q md (Keep F W0) (pQ F J) (fun i w=>rd.contains i=true->pre w) (VsJ J pJ l) a0 j o)
 (hend:∀(ev:Operand->Value) w f,Keep F W0 w->(∀i d,i < n->((ops[i]?).bind (·.dst))=some d->VsJ J pJ l i (ev (.tmp d)) w)->wpAny P md ops Q (ops.size - n+f) (bV n ops.size) (aI ev ds a0) w):
 wpAny P md ops Q ops.size (Array.replicate ops.size false) a0 W0:=by
 refine uC n ds (Keep F W0) (pQ F J) (fun i w=>rd.contains i=true->pre w) (VsJ J pJ l) a0 W0 hds hn hlaid htail (Keep.refl _ _) (fun _ _=>hp0) (fun j w w' _ h k=>h.trans (jY k)) (fun i j w w' _ hij hup hi hC k hir=>?_) (fun i j v w w' _ hij _ hv _ k=>?_) hstep hend;by_cases hj:j=J;exfalso;subst hj;have h2:=zBf.1 hrd i (by simpa using hir);simp only [hup,Bool.or_false,zCq] at h2;exact hij h2;exact hp w w' (hi hir) hC (k.2 hj);unfold VsJ at hv⊢;by_cases hi:i=J;rw [zBx hi] at hv⊢;exact hJ v w w' hv (k.2 fun e=>hij (hi.trans e.symm));rw [zBw hi] at hv⊢;exact wO hst i v w w' hv (jY k)
theorem bM {n:Nat} {T:Nat->Oper->Prop} {l:List Oper} (h:∀j p,(l.take n)[j]?=some p->T (0+j) p):∀j p,j < n->l.toArray[j]?=some p->T j p:=by
 intro j p hj hp;have:=h j p (by rw [zBs,zBx hj];simpa using hp);rwa [zBi] at this
section
variable {P : Program} {ops : Array Oper} {Q : Exit -> Act -> World -> Prop} {md : Region.Mode}
def wH (P:Program) (ops:Array Oper) (Q:Exit->Act->World->Prop) (md:Region.Mode) (C:(Operand->Value)->World->Prop) (S:Nat->Value->World->World->Prop) (U:Nat->World->Prop) (V:Nat->(Operand->Value)->Value->World->Prop) (a0:Act) (j:Nat) (o:Oper):Prop:=
 ∀a w,C a.eval w->U j w->a.tmps.size=a0.tmps.size->a.defers=a0.defers->
    (∀t,rH md ops j t=true->a.tmps.getD t undef=a0.tmps.getD t undef)->
    (∀e∈o.after,Region.binds md e=true->∀p d,ops[e.on]?=some p->p.dst=some d->V e.on a.eval (a.tmps.getD d undef) w)->
    ∀K:Act->World->Prop,(∀v w',S j v w w'->V j a.eval v w'->K (a.put o.dst v) w')->wpOp P ops Q j K a w
theorem cU {C:(Operand->Value)->World->Prop} {S:Nat->Value->World->World->Prop} {U:Nat->World->Prop} {V:Nat->(Operand->Value)->Value->World->Prop} {a0:Act} {j:Nat} {o:Oper} (ho:ops[j]?=some o) (hg:o.guard=none)
 (h:∀ev:Operand->Value,∀w,C ev w->U j w->(∀v,ev (.const v)=v)->(∀f,ev (.func f)=.func (.func f) #[] #[])->(∀t,rH md ops j t=true->ev (.tmp t)=a0.eval (.tmp t))->
  (∀i d,o.after.toList.any (fun e=>Region.binds md e&&e.on==i)=true->((ops[i]?).bind (·.dst))=some d->V i ev (ev (.tmp d)) w)->
  ∀a K,a.eval=ev->(∀v w',S j v w w'->V j ev v w'->K (a.put o.dst v) w')->Oper.upon P o a K Q ((execOp ev o).run P w)):wH P ops Q md C S U V a0 j o:=by
 intro a w hS hU hsz hdf hold hval K hK;unfold wpOp;simp only [ho];have hw:Region.wanted o (yielded ops a.tmps)=true:=by unfold Region.wanted;rw [hg]
 rw [zBx hw];refine .inl (h a.eval w hS hU (fun _=>rfl) (fun _=>rfl) (fun t ht=>hold t ht) (fun i d hi hd=>?_) a K rfl hK);obtain ⟨e,he,h2⟩:=List.any_eq_true.1 hi;simp only [zBd,zCq] at h2;obtain ⟨h3,rfl⟩:=h2;cases hp:ops[e.on]? with
 | none=>rw [hp] at hd;cases hd
 | some p=>rw [hp] at hd;exact hval e (Array.mem_toList_iff.1 he) h3 p d hp hd
theorem aKw {m:Nat} (hl:jB md ops m=true):∀f i j,upB md ops f i j=true->j < i:=by
 intro f
 induction f with
 | zero=>intro i j h;cases h
 | succ f ih=>
   intro i j h;unfold upB at h;cases ho:ops[i]? with
   | none=>rw [ho] at h;cases h
   | some o=>
     rw [ho] at h;obtain ⟨e,he,h2⟩:=List.any_eq_true.1 h;simp only [zBd,Bool.or_eq_true,zCq] at h2;have h3:=(dW hl ho).1 e (Array.mem_toList_iff.1 he) h2.1;rcases h2.2 with h4 | h4;omega;have:=ih _ _ h4;omega
theorem aDS {m:Nat} (hl:jB md ops m=true) (f i j:Nat) (h:j<=i) (hu:upB md ops f j i=true):False:=by
 have:=aKw hl f j i hu;omega
structure LooseF (md:Region.Mode) (ops:Array Oper) (C:(Operand->Value)->World->Prop) (U:Nat->World->Prop) (V:Nat->(Operand->Value)->Value->World->Prop) (a0:Act) (listed:Array Bool) (a:Act) (w:World):Prop where
 world:C a.eval w
 pre:∀j o,ops[j]?=some o->listed.getD j false=false->U j w
 size:a.tmps.size=a0.tmps.size
 defers:a.defers=a0.defers
 old:∀t,(∀k p,ops[k]?=some p->p.dst=some t->listed.getD k false=false)->a.tmps.getD t undef=a0.tmps.getD t undef
 val:∀i o,ops[i]?=some o->listed.getD i false=true->∃v,(∀d,o.dst=some d->a.tmps.getD d undef=v)/\V i a.eval v w
 shut:∀k p,ops[k]?=some p->listed.getD k false=true->∀e∈p.after,Region.binds md e=true->listed.getD e.on false=true
theorem aA2 (C:(Operand->Value)->World->Prop) (S:Nat->Value->World->World->Prop) (U:Nat->World->Prop) (V:Nat->(Operand->Value)->Value->World->Prop) (a0:Act)
 (W0:World) (hlaid:jB md ops a0.tmps.size=true) (hC0:C a0.eval W0) (hU0:∀i,U i W0) (hC:∀j o ev ev' v w w',ops[j]?=some o->(∀d,o.dst=some d->ev' (.tmp d)=v)->(∀t,o.dst≠some t->ev' (.tmp t)=ev (.tmp t))->C ev w->S j v w w'->C ev' w') (hU:∀i j v w w',i≠j->upB md ops ops.size j i=false->U i w->S j v w w'->U i w')
 (hown:∀j o ev ev' v w,ops[j]?=some o->(∀t,o.dst≠some t->ev' (.tmp t)=ev (.tmp t))->V j ev v w->V j ev' v w)
 (hstab:∀i j o ev ev' v u w w',ops[j]?=some o->(∀t,o.dst≠some t->ev' (.tmp t)=ev (.tmp t))->i≠j->upB md ops ops.size i j=false->V i ev v w->C ev w->S j u w w'->V i ev' v w')
 (hstep:∀j o,ops[j]?=some o->wH P ops Q md C S U V a0 j o)
 (hend:∀a w,C a.eval w->a.tmps.size=a0.tmps.size->a.defers=a0.defers->
  (∀t,(∀(k:Nat) (p:Oper),ops[k]?=some p->p.dst≠some t)->a.tmps.getD t undef=a0.tmps.getD t undef)->
  (∀i o,ops[i]?=some o->∃v,(∀d,o.dst=some d->a.tmps.getD d undef=v)/\V i a.eval v w)->Q .normal a w):
 wpAny P md ops Q ops.size (Array.replicate ops.size false) a0 W0:=by
 have done:∀listed a w,listed.size=ops.size->(∀i,i < ops.size->listed.getD i false=true)->LooseF md ops C U V a0 listed a w->Q .normal a w:=by intro listed a w hl hall h;refine hend a w h.world h.size h.defers (fun t ht=>h.old t fun k p hp hd=>absurd hd (ht k p hp)) fun i o ho=>h.val i o ho (hall i (zAh.1 ho).1)
 have none_ready:∀listed:Array Bool,listed.size=ops.size->Region.ready md ops listed= []->∀i,i < ops.size->listed.getD i false=true:=by
  intro listed hl hr i
  induction i using Nat.strongRecOn with
  | _ i ih=>
    intro hi;cases hc:listed.getD i false with
    | true=>rfl
    | false=>
      exfalso;have hm:i∈Region.ready md ops listed:=(by refine mem_ready.2 ⟨?_,ops[i],zAq hi,fun e he hb=>?_⟩;have hi':i < listed.size:=oM;simp [hi'] at hc⊢;exact hc;have:=(dW hlaid (zAq hi)).1 e he hb;exact ih e.on this oM);rw [hr] at hm;cases hm
 have main:∀fuel listed a w,listed.size=ops.size->listed.toList.count false<=fuel->LooseF md ops C U V a0 listed a w->wpAny P md ops Q fuel listed a w:=by
  intro fuel
  induction fuel with
  | zero=>
    intro listed a w hl hc h
    have hall:∀i,i < ops.size->listed.getD i false=true:=by
        intro i hi;have hi':i < listed.size:=oM;cases hv:listed.getD i false with
        | true=>rfl
        | false=>
          exfalso;have:false∈listed.toList:=(by simp [hi'] at hv;exact hv ▸(by simp));have:=List.count_pos_iff.2 this;omega
    refine ⟨?_,done listed a w hl hall h⟩;cases hr:Region.ready md ops listed with
    | nil=>rfl
    | cons i l=>
      exfalso;have hi:i∈Region.ready md ops listed:=(by rw [hr];exact List.mem_cons_self ..);obtain ⟨h0,o,ho,_⟩:=mem_ready.1 hi;have hlt:i < ops.size:=(zAh.1 ho).1;have h1:=hall i hlt;have hi':i < listed.size:=oM;simp [hi'] at h0 h1;rw [h0] at h1;cases h1
  | succ fuel ih=>
    intro listed a w hl hc h;refine ⟨fun hr=>done listed a w hl (none_ready listed hl hr) h,fun j hj=>?_⟩;obtain ⟨h0,o,ho,haft⟩:=mem_ready.1 hj;have hlt:j < ops.size:=(zAh.1 ho).1;have hjl:j < listed.size:=oM;have h0':listed.getD j false=false:=by simp [hjl] at h0⊢;exact h0
    have hput:∀v t,o.dst≠some t->(a.put o.dst v).eval (.tmp t)=a.eval (.tmp t):=by
        intro v t ht;cases hod:o.dst with
        | none=>rfl
        | some d=>
          have hdt:d≠t:=fun e=>ht (by rw [hod,e]);simp [Act.eval,Act.put,zAm,hdt]
    have hdst:∀v d,o.dst=some d->(a.put o.dst v).eval (.tmp d)=v:=(by intro v d hd;have hdl:=((dW hlaid ho).2 d hd).1;have:d < a.tmps.size:=(by rw [h.size];exact hdl);simp [Act.eval,Act.put,zAm,hd,this]);refine hstep j o ho a w h.world (h.pre j o ho h0') h.size h.defers (fun t ht=>h.old t fun k p hp hd=>?_) (fun e he hb p d hp hd=>by obtain ⟨v,h1,h2⟩:=h.val e.on p hp (haft e he hb);rw [h1 d hd];exact h2) _ fun v w' hS hV=>?_
    · rcases vT ht hp hd with rfl |⟨e,he,hb,heq⟩;exact h0'
      · cases hk:listed.getD k false with
        | false=>rfl
        | true=>
          have:=h.shut k p hp hk e he hb;rw [heq,h0'] at this;cases this
    · refine ih _ _ _ (by simpa using hl) ?_ ?_;have hv:listed.toList[j]'(by simpa using hjl)=false:=(by simp [hjl] at h0'⊢;exact h0');rw [Array.toList_setIfInBounds,List.count_set (by simpa using hjl),hv];simp;have hm:false∈listed.toList:=hv ▸ zBj _;have:=List.count_pos_iff.2 hm;rw [<-Array.count_toList];omega
      · have hsz:(a.put o.dst v).tmps.size=a0.tmps.size:=by
          rw [<-h.size];cases o.dst with
          | none=>rfl
          | some d=>simp [Act.put]
        refine ⟨hC j o _ _ v w w' ho (hdst v) (hput v) h.world hS,fun i p hp hi=>?_,hsz,?_,fun t ht=>?_,fun i p hp hi=>?_,fun k p hp hk e he hb=>?_⟩
        · have hji:i≠j:=fun e=>by rw [e,bO _ _ hjl] at hi;cases hi
          rw [getD_set_ne false hji.symm] at hi;refine hU i j v w w' hji ?_ (h.pre i p hp hi) hS;cases hup:upB md ops ops.size j i with
          | false=>rfl
          | true=>
            have:=kC h.shut _ j i o ho haft hup;rw [hi] at this;cases this
        · rw [<-h.defers];cases o.dst <;> rfl
        · have hne:o.dst≠some t:=fun hd=>by have:=ht j o ho hd;rw [bO _ _ hjl] at this;cases this
          have hold:=h.old t fun k p hp hd=>by
           have:=ht k p hp hd;cases hk:listed.getD k false with
           | false=>rfl
           | true=>
             by_cases hjk:j=k
             · subst hjk;rw [h0'] at hk;cases hk
             · rw [getD_set_ne false hjk,hk] at this;cases this
          rw [<-hold];cases hod:o.dst with
          | none=>rfl
          | some d=>
            have hdt:d≠t:=fun h=>hne (by rw [hod,h]);simp [Act.put,zAm,hdt]
        · rcases eP _ _ _ hi with rfl | hi1
          · rw [ho] at hp;injection hp with hp;subst hp;refine ⟨v,fun d hd=>?_,hown _ _ _ _ _ _ ho (hput v) hV⟩;have hdl:=((dW hlaid ho).2 d hd).1;rw [hd];have:d < a.tmps.size:=(by rw [h.size];exact hdl);simp [Act.put,zAm,this]
          · by_cases hij:i=j
            · subst hij;rw [h0'] at hi1;cases hi1
            obtain ⟨u,hu,hv⟩:=h.val i p hp hi1
            have haf:upB md ops ops.size i j=false:=by
              cases hc:upB md ops ops.size i j with
              | false=>rfl
              | true=>
                exfalso;have:=kC h.shut _ i j p hp (h.shut i p hp hi1) hc;rw [h0'] at this;cases this
            refine ⟨u,fun d hd=>?_,hstab _ _ _ _ _ _ _ _ _ ho (hput v) hij haf hv h.world hS⟩;rw [<-hu d hd];cases hod:o.dst with
            | none=>rfl
            | some d'=>
              have hdt:d'≠d:=fun h=>hij (((dW hlaid ho).2 d' hod).2 i p hp (h ▸ hd));simp [Act.put,zAm,hdt]
        rcases eP _ _ _ hk with rfl | hk;rw [ho] at hp;injection hp with hp;subst hp;have h1:=haft e he hb;by_cases hje:k=e.on;rw [<-hje];exact bO _ _ hjl _;rw [getD_set_ne false hje];exact h1;have h1:=h.shut k p hp hk e he hb;by_cases hje:j=e.on;rw [<-hje];exact bO _ _ hjl _;rw [getD_set_ne false hje];exact h1
 refine main _ _ _ _ (by simp) (by simp) ⟨hC0,fun j _ _ _=>hU0 j,rfl,rfl,fun _ _=>rfl,fun i o ho hi=>?_,fun k p hp hk=>?_⟩
 · have hlt:i < ops.size:=(zAh.1 ho).1;simp [hlt] at hi
 · have hlt:k < ops.size:=(zAh.1 hp).1;simp [hlt] at hk
theorem aA1 (ds:List Nat) (C:(Operand->Value)->World->Prop) (S:Nat->Value->World->World->Prop) (U:Nat->World->Prop) (V:Nat->(Operand->Value)->Value->World->Prop) (a0:Act) (W0:World)
 (hds:ops.toList.filterMap (·.dst)=ds)
 (hlaid:jB md ops a0.tmps.size=true) (hC0:C a0.eval W0) (hU0:∀i,U i W0) (hC:∀j o ev ev' v w w',ops[j]?=some o->(∀d,o.dst=some d->ev' (.tmp d)=v)->(∀t,o.dst≠some t->ev' (.tmp t)=ev (.tmp t))->C ev w->S j v w w'->C ev' w') (hU:∀i j v w w',i≠j->upB md ops ops.size j i=false->U i w->S j v w w'->U i w')
 (hown:∀j o ev ev' v w,ops[j]?=some o->(∀t,o.dst≠some t->ev' (.tmp t)=ev (.tmp t))->V j ev v w->V j ev' v w)
 (hstab:∀i j o ev ev' v u w w',ops[j]?=some o->(∀t,o.dst≠some t->ev' (.tmp t)=ev (.tmp t))->i≠j->upB md ops ops.size i j=false->V i ev v w->C ev w->S j u w w'->V i ev' v w')
 (hstep:∀j o,ops[j]?=some o->wH P ops Q md C S U V a0 j o)
 (hend:∀(ev:Operand->Value) w,C ev w->(∀i d,((ops[i]?).bind (·.dst))=some d->V i ev (ev (.tmp d)) w)->(∀i,i < ops.size->∃v,V i ev v w)->Q .normal (aI ev ds a0) w):
 wpAny P md ops Q ops.size (Array.replicate ops.size false) a0 W0:=by
 refine aA2 C S U V a0 W0 hlaid hC0 hU0 hC hU hown hstab hstep fun a w hS hsz hdf hold hval=>?_;have h1:=hend a.eval w hS (fun i d hd=>by
  cases ho:ops[i]? with
  | none=>rw [ho] at hd;cases hd
  | some o=>
    rw [ho] at hd;obtain ⟨v,h1,h2⟩:=hval i o ho;have:=h1 d hd;change V i a.eval (a.tmps.getD d undef) w;rw [this];exact h2) (fun i hi=>by
  obtain ⟨v,_,h2⟩:=hval i _ (zAq hi);exact ⟨v,h2⟩)
 rw [<-oB a a0 ds hsz hdf fun t ht=>hold t fun k p hp hd=>ht ?_] at h1;exact h1;rw [<-hds];exact List.mem_filterMap.2 ⟨p,Array.mem_toList_iff.2 (Array.mem_of_getElem? hp),hd⟩
end
def blk?:Value->Option Nat
 | .pointer (some a)=>some a.block
 | .slice (some a) _ _=>some a.block
 | _=>none
def aDO (fs:List Nat) (ev:Operand->Value) (w:World):Prop:=
 (∀s∈fs,∀g,blk? (ev (.tmp s))=some g->g < w.heap.size)/\∀s∈fs,∀t∈fs,s≠t->∀g,blk? (ev (.tmp s))=some g->blk? (ev (.tmp t))≠some g
theorem yE {fs:List Nat} {ev:Operand->Value} {w:World} (h:(fs.all fun s=>(blk? (ev (.tmp s))).isNone)=true):aDO fs ev w:=by
 have h1:∀s∈fs,blk? (ev (.tmp s))=none:=fun s hs=>by simpa using zBf.1 h s hs
 refine ⟨fun s hs g hg=>?_,fun s hs _ _ _ g hg=>?_⟩<;>(rw [h1 s hs] at hg;cases hg)
def aJi (v:Value) (w w':World):Prop:=∀g,blk? v=some g->w.heap.size<=g/\g < w'.heap.size
def aAX (fs:List Nat) (ops:Array Oper) (SJ:World->World->Prop) (J j:Nat) (v:Value) (w w':World):Prop:=w.heap.size<=w'.heap.size/\(j=J->SJ w w')/\(j≠J->Grow w w')/\∀d∈fs,((ops[j]?).bind (·.dst))=some d->aJi v w w'
theorem dL {fs:List Nat} {ops:Array Oper} {SJ:World->World->Prop} {J j:Nat} {v:Value} {w w':World} (h:Grow w w') (hj:(j==J)=false) (hf:(fs.all fun d=>((ops[j]?).bind (·.dst))!= some d)=true):aAX fs ops SJ J j v w w':=
 ⟨h.size,fun e=>by simp [e] at hj,fun _=>h,fun d hd he=>by have:=zBf.1 hf d hd;simp [he] at this⟩
theorem jX {fs:List Nat} {ops:Array Oper} {SJ:World->World->Prop} {J j:Nat} {v:Value} {w w':World} (h:Grow w w') (hj:(j==J)=false) (hf:aJi v w w'):aAX fs ops SJ J j v w w':=
 ⟨h.size,fun e=>by simp [e] at hj,fun _=>h,fun _ _ _=>hf⟩
theorem aIz {fs:List Nat} {ops:Array Oper} {SJ:World->World->Prop} {J:Nat} {v:Value} {w w':World} (h:SJ w w') (hz:w.heap.size<=w'.heap.size) (hf:(fs.all fun d=>((ops[J]?).bind (·.dst))!= some d)=true):aAX fs ops SJ J J v w w':=
 ⟨hz,fun _=>h,fun e=>absurd rfl e,fun d hd he=>by have:=zBf.1 hf d hd;simp [he] at this⟩
abbrev KP:=List Nat×((Operand->Value)->Value->World->Prop)
def k0 (p:Value->World->Prop):KP:=([],fun _ v w=>p v w)
def kEq (t:Nat):KP:=([t],fun ev v _=>v=ev (.tmp t))
def kLk (s1 s2:Nat) (p:Value->Value->World->Prop):KP:=([s1,s2],fun ev _ w=>p (ev (.tmp s1)) (ev (.tmp s2)) w)
def aDI (q:KP):Prop:=∀ev ev':Operand->Value,(∀t∈q.1,ev' (.tmp t)=ev (.tmp t))->∀v w,q.2 ev v w->q.2 ev' v w
theorem aEM (p:Value->World->Prop):aDI (k0 p):=fun _ _ _ _ _ h=>h
theorem aFG (t:Nat):aDI (kEq t):=fun ev ev' he v w h=>by
 show v=ev' (.tmp t);rw [he t (by simp [kEq])];exact h
theorem aJ3 (s1 s2:Nat) (p:Value->Value->World->Prop):aDI (kLk s1 s2 p):=fun ev ev' he v w h=>by
 show p (ev' (.tmp s1)) (ev' (.tmp s2)) w;rw [he s1 (by simp [kLk]),he s2 (by simp [kLk])];exact h
def aE0 (R:World->World->Prop) (q:KP):Prop:=∀ev v w w',q.2 ev v w->R w w'->q.2 ev v w'
theorem jP {R:World->World->Prop} {p:Value->World->Prop} (h:∀v w w',p v w->R w w'->p v w'):aE0 R (k0 p):=fun _ v w w' hp hr=>h v w w' hp hr
theorem vM (R:World->World->Prop) (c:Value):aE0 R (k0 (is c)):=fun _ _ _ _ h _=>h
theorem aCk (R:World->World->Prop):aE0 R (k0 cR):=fun _ _ _ _ _ _=>trivial
theorem qV (R:World->World->Prop) (t:Nat):aE0 R (kEq t):=fun _ _ _ _ h _=>h
theorem qU {R:World->World->Prop} {s1 s2:Nat} {p:Value->Value->World->Prop} (h:∀u v w w',p u v w->R w w'->p u v w'):aE0 R (kLk s1 s2 p):=fun _ _ w w' hp hr=>h _ _ w w' hp hr
def VsQ (l:List KP) (i:Nat) (ev:Operand->Value) (v:Value) (w:World):Prop:=(l.getD i (k0 cR)).2 ev v w
theorem aFm (l:List KP) (i:Nat):l.getD i (k0 cR)∈l∨l.getD i (k0 cR)=k0 cR:=by
 rw [zAb];cases h:l[i]? with
 | none=>exact .inr rfl
 | some q=>exact .inl (zAd h)
theorem wK {P:Program} {ops:Array Oper} {Q:Exit->Act->World->Prop} {md:Region.Mode} (ds fs:List Nat) (J:Nat) (SJ:World->World->Prop) (C:World->Prop) (l:List KP) (a0:Act) (W0:World)
 (hds:ops.toList.filterMap (·.dst)=ds) (hlaid:jB md ops a0.tmps.size=true)
 (hlk:((List.range ops.size).all fun i=>(List.range ops.size).all fun j=>match ops[j]? with
  | some o=>upB md ops ops.size i j||(l.getD i (k0 cR)).1.all fun t=>o.dst != some t
  | none=>true)=true)
 (hC0:C W0) (hA0:aDO fs a0.eval W0) (hC:∀w w',C w->(Grow w w'∨SJ w w')->C w')
 (hdep:∀q∈l,aDI q) (hst:∀q∈l,aE0 Grow q) (hst2:∀q∈l.eraseIdx J,aE0 SJ q)
 (hstep:∀j o,ops[j]?=some o->wH P ops Q md (fun ev w=>C w/\aDO fs ev w) (aAX fs ops SJ J) (fun _ _=>True) (VsQ l) a0 j o)
 (hend:∀(ev:Operand->Value) w,C w->aDO fs ev w->(∀i d,((ops[i]?).bind (·.dst))=some d->VsQ l i ev (ev (.tmp d)) w)->(∀i,i < ops.size->∃v,VsQ l i ev v w)->Q .normal (aI ev ds a0) w):
 wpAny P md ops Q ops.size (Array.replicate ops.size false) a0 W0:=by
 have hany:∀ {j v w w'},aAX fs ops SJ J j v w w'->Grow w w'∨SJ w w':=fun {j v w w'} h=>by by_cases hj:j=J;exact .inr (h.2.1 hj);exact .inl (h.2.2.1 hj)
 have hself:∀j,upB md ops ops.size j j=false:=by
  intro j;cases hc:upB md ops ops.size j j with
  | false=>rfl
  | true=>exact (aDS hlaid _ _ _ nL hc).elim
 have hdepA:∀i,aDI (l.getD i (k0 cR)):=fun i=>by rcases aFm l i with h | h;exact hdep _ h;rw [h];exact aEM _
 have hkeep:∀i j o (ev ev':Operand->Value) v w,i < ops.size->ops[j]?=some o->(∀t,o.dst≠some t->ev' (.tmp t)=ev (.tmp t))->upB md ops ops.size i j=false->VsQ l i ev v w->VsQ l i ev' v w:=by intro i j o ev ev' v w hi ho he hup hv;have h1:=zBf.1 (zBf.1 hlk i (by simpa using hi)) j (by simpa using (zAh.1 ho).1);simp only [ho,hup,Bool.false_or] at h1;exact hdepA i ev ev' (fun t ht=>he t (by have:=zBf.1 h1 t ht;simpa using this)) v w hv
 refine aA1 ds (fun ev w=>C w/\aDO fs ev w) (aAX fs ops SJ J) (fun _ _=>True) (fun i ev v w=>i < ops.size->VsQ l i ev v w) a0 W0 hds hlaid ⟨hC0,hA0⟩ (fun _=>trivial) (fun j o ev ev' v w w' ho hd he h k=>⟨hC w w' h.1 (hany k),?_⟩) (fun _ _ _ _ _ _ _ _ _=>trivial) (fun j o ev ev' v w ho he hv hj=>hkeep j j o ev ev' v w hj ho he (hself j) (hv hj)) (fun i j o ev ev' v u w w' ho he hij hup hv hc k hi=>?_) (fun j o ho a w h1 h2 h3 h4 h5 h6 K hK=>hstep j o ho a w h1 h2 h3 h4 h5 (fun e he hb p d hp hd=>h6 e he hb p d hp hd (zAh.1 hp).1) K (fun v w' hS hV=>hK v w' hS fun _=>hV)) (fun ev w h h1 h2=>hend ev w h.1 h.2 (fun i d hd=>h1 i d hd (by
  cases ho:ops[i]? with
  | none=>rw [ho] at hd;cases hd
  | some o=>exact (zAh.1 ho).1)) (fun i hi=>(h2 i hi).imp fun v hv=>hv hi))
 · have hz:=k.1;obtain ⟨h1,h2⟩:=h.2;have hnew:∀s∈fs,o.dst=some s->aJi (ev' (.tmp s)) w w':=fun s hs hds=>by rw [hd s hds];exact k.2.2.2 s hs (by rw [ho];exact hds)
   refine ⟨fun s hs g hg=>?_,fun s hs t ht hst g hg hg'=>?_⟩;by_cases hds:o.dst=some s;exact (hnew s hs hds g hg).2;rw [he s hds] at hg;have:=h1 s hs g hg;omega;by_cases hds:o.dst=some s;have hdt:o.dst≠some t:=fun e=>hst (by rw [hds] at e;injection e);rw [he t hdt] at hg';have:=(hnew s hs hds g hg).1;have:=h1 t ht g hg';omega;rw [he s hds] at hg;by_cases hdt:o.dst=some t;have:=(hnew t ht hdt g hg').1;have:=h1 s hs g hg;omega;rw [he t hdt] at hg';exact h2 s hs t ht hst g hg hg'
 · have h1:=hkeep i j o ev ev' v w hi ho he hup (hv hi);unfold VsQ at h1⊢;by_cases hj:j=J
   · subst hj
     have hm:l.getD i (k0 cR)∈l.eraseIdx j∨l.getD i (k0 cR)=k0 cR:=by
        rw [zAb];cases hl:l[i]? with
        | none=>exact .inr rfl
        | some q=>exact .inl (List.mem_eraseIdx_iff_getElem?.2 ⟨i,hij,hl⟩)
     rcases hm with h2 | h2;exact hst2 _ h2 ev' v w w' h1 (k.2.1 rfl)
     · rw [h2];trivial
   · rcases aFm l i with h2 | h2;exact hst _ h2 ev' v w w' h1 (k.2.2.1 hj)
     · rw [h2];trivial
end
section
def aF {α:Type} (l:List α) (k:Nat):List α:=l.take k++l.drop (k+1)
theorem dX {α:Type} (l:List α) {k:Nat} (h:k < l.length) (j:Nat):(aF l k)[j]?=if j < k then l[j]? else l[j+1]?:=by
 unfold aF;have hl:(l.take k).length=k:=by rw [zAj];omega
 by_cases h1:j < k
 · rw [zBx h1,zAn oM,zBs,zBx h1]
 rw [zBw h1,zAo oM,hl,zBt];congr 1;omega
theorem oZ (l:List Bool) {k:Nat} (h:k < l.length) (j:Nat):(aF l k).getD j false=if j < k then l.getD j false else l.getD (j+1) false:=by
 rw [zAb,dX l h];split
 · rw [zAb]
 · rw [zAb]
theorem aFU (l:List Bool) (n j:Nat):(l.take n).getD j false=(decide (j < n)&&l.getD j false):=by
 rw [zAb,zBs];by_cases h:j < n
 · rw [zBx h,zAb];simp [h]
 · rw [zBw h];simp [h]
theorem aGF (l:List Bool) (n j:Nat):(l.drop n).getD j false=l.getD (n+j) false:=by
 rw [zAb,zBt,zAb]
def lN:Nat->Nat->List UInt8
 | 0,_=> []
 | f+1,n=>if n=0 then [] else lN f (n / 128)++ [UInt8.ofNat (n % 128+128)]
def cA (n:Nat):List UInt8:=lN 10 (n / 128)++ [UInt8.ofNat (n % 128)]
def dO (l:List Nat):List UInt8:=l.flatMap cA
def eJ:List UInt8->Bool->Nat->Nat->Option (Nat×Nat)
 | [],_,_,_=>none
 | c::r,first,acc,pos=>
   if (first&&c.toNat==128)||decide (144115188075855871 < acc) then none
   else if c.toNat < 128 then some (acc*128+c.toNat % 128,pos+1) else eJ r false (acc*128+c.toNat % 128) (pos+1)
def eI (l:List UInt8) (at_:Int):Nat×Int×Int:=
 if at_ < 0∨(l.length:Int) < at_ then (0,at_,2)
 else match eJ (l.drop at_.toNat) true 0 at_.toNat with
    | some (n,p)=>(n,p,0)
    | none=>(0,at_,4)
def aBs:Nat->Nat->List UInt8
 | 0,_=> []
 | k+1,n=>aBs k n++ [UInt8.ofNat (n / 256 ^ k % 256)]
def rV (n:Nat):List UInt8:=aBs 4 n
def ofN (l:List UInt8) (a:Nat):Nat->Nat
 | 0=>0
 | k+1=>ofN l a k+(l[a+k]?.getD 0).toNat*256 ^ k
def ofB (l:List UInt8) (at_:Int):Nat×Int:=
 if at_ < 0∨(l.length:Int) < at_ then (0,2) else if (l.length:Int) - at_ < 4 then (0,4) else (ofN l at_.toNat 4,0)
theorem aKJ (l:List UInt8) (a:Nat) (k:Nat):ofN l a k < 256 ^ k:=by
 induction k with
 | zero=>simp [ofN]
 | succ k ih=>
   have:(l[a+k]?.getD 0).toNat < 256:=UInt8.toNat_lt _;simp only [ofN,Nat.pow_succ];have h2:(l[a+k]?.getD 0).toNat*256 ^ k<=255*256 ^ k:=Nat.mul_le_mul_right _ oM;omega
theorem mQ (c:UInt8) (r:List UInt8) (first:Bool) (acc pos:Nat):eJ (c::r) first acc pos=
 if (first&&c.toNat==128)||decide (144115188075855871 < acc) then none
 else if c.toNat < 128 then some (acc*128+c.toNat % 128,pos+1) else eJ r false (acc*128+c.toNat % 128) (pos+1):=by conv=>lhs;rw [eJ]
theorem tL (f:Nat):lN f 0= []:=by cases f <;> simp [lN]
theorem aGk (f:Nat):∀n,n < 128 ^ f->lN (f+1) n=lN f n:=by
 induction f with
 | zero=>intro n h;have:n=0:=by simpa using h
         subst this;simp [lN]
 | succ f ih=>
   intro n h;by_cases h0:n=0
   · subst h0;simp [tL]
   · rw [lN,zBw h0,ih (n / 128) (by rw [Nat.div_lt_iff_lt_mul oM];rw [Nat.pow_succ] at h;exact h)]
     conv=>rhs;rw [lN,zBw h0]
theorem aGj (n:Nat) (h0:n≠0) (h:n < 128 ^ 10):lN 10 n=lN 10 (n / 128)++ [UInt8.ofNat (n % 128+128)]:=by
 rw [aGk 9 (n / 128) oM]
 conv=>lhs;rw [lN,zBw h0]
theorem aCG (f:Nat):∀n,(lN f n).length<=f:=by
 induction f with
 | zero=>intro n;simp [lN]
 | succ f ih=>
   intro n;unfold lN;split
   · simp
   have:=ih (n / 128);simp;omega
theorem dG (n:Nat):(cA n).length<=11:=by
 have:=aCG 10 (n / 128);simp [cA];omega
theorem xU (l:List Nat):(dO l).length<=11*l.length:=by
 induction l with
 | nil=>simp [dO]
 | cons a l ih=>
   have:=dG a;simp [dO] at ih⊢;omega
theorem aCX (l:List Nat) (k:Nat) (n:Nat) (h:l[k]?=some n):dO (l.take (k+1))=dO (l.take k)++cA n:=by
 have hk:k < l.length:=(zAc.1 h).1;rw [List.take_succ_eq_append_getElem hk];have:l[k]=n:=(zAc.1 h).2;rw [this];simp [dO,List.flatMap_append]
theorem aJU (n i j:Nat) (h:i+1<=j) (hg:j=0∨1<=n / 2 ^(7*j)):n / 2 ^(7*(i+1))≠0:=by
 have h1:1<=n / 2 ^(7*j):=by rcases hg with h0 | h0 <;> omega
 have h2:n / 2 ^(7*j)<=n / 2 ^(7*(i+1)):=Nat.div_le_div_left (zBp oM oM) (Nat.pow_pos oM);omega
theorem aKM (n i:Nat) (h:n < 18446744073709551616):n / 2 ^(7*(i+1)) < 128 ^ 9:=by
 have h2:n / 2 ^(7*(i+1))<=n / 2 ^ 7:=Nat.div_le_div_left (zBp oM oM) (Nat.pow_pos oM);omega
theorem aKX (n j:Nat):n / 2 ^(7*(j+1))=n / 2 ^(7*j)/ 128:=by
 rw [Nat.div_div_eq_div_mul,show 7*(j+1)=7*j+7 by omega,Nat.pow_add]
theorem aF6 (n j:Nat) (h:n < 18446744073709551616) (hj:j<=9) (hg:128<=n / 2 ^(7*j)):j+1<=9:=by
 by_cases h9:j=9;subst h9;rw [Nat.le_div_iff_mul_le dC] at hg;omega;omega
theorem qJ (n:Nat):dO [n]=cA n:=by simp [dO]
end
section
open Go.RowKit
def iB (T D:List UInt8) (k:Nat):List Nat:=(List.range k).filter fun i=>D.isPrefixOf (T.drop i)
def fM (T D:List UInt8):List Nat:=iB T D (T.length+1 - D.length)
def nv (i:Nat):Value:=iv (i:Int)
theorem aAJ (T D:List UInt8) (k:Nat) (h:D.isPrefixOf (T.drop k)=false):iB T D (k+1)=iB T D k:=by
 simp [iB,List.range_succ,List.filter_append,h]
structure Told where
 code:Int
 num:Int
 data:List UInt8
 places:List Nat
def lF (r:Told) (A1:Option Addr) (c1:Nat) (A2:Option Addr) (c2:Nat):Array Value:=#[.int .i64 r.code,.int .i64 r.num,.slice A1 r.data.length c1,.slice A2 r.places.length c2]
def bT (kind p k:Int) (AD:Option Addr) (nd cd:Nat):Value:=.agg #[.int .i64 kind,.int .i64 p,.int .i64 k,.slice AD nd cd]
theorem bB (w:World) (B:Nat) (e:TypeId):Made w B e 1 none 0 0 []:=⟨World.ownsRow_nil _ _ _ _,Rd.nil _ _ _ _,zAs _,zAp _⟩
def eD (n:Nat) (p k:Int):Bool:=decide (0<=p/\0<=k/\p<=(n:Int)/\k<=(n:Int) - p)
def doM (T:List UInt8) (most kind p k:Int) (D:List UInt8):List UInt8×Told:=
 if kind=1 then
    if eD T.length p 0=false then (T,⟨2,0, [], []⟩) else if most -(T.length:Int) < (D.length:Int) then (T,⟨3,0, [], []⟩) else (T.take p.toNat++(D++T.drop p.toNat),⟨0,0, [], []⟩)
 else if kind=2 then
    if eD T.length p k=false then (T,⟨2,0, [], []⟩) else (T.take p.toNat++T.drop (p.toNat+k.toNat),⟨0,0, [], []⟩)
 else if kind=5 then
    if eD T.length p k=false then (T,⟨2,0, [], []⟩) else (T,⟨0,0,(T.drop p.toNat).take k.toNat, []⟩)
 else if kind=3 then
    if eD T.length p (D.length:Int)=false then (T,⟨2,0, [], []⟩) else (T.take p.toNat++(D++T.drop (p.toNat+D.length)),⟨0,0, [], []⟩)
 else if kind=4 then (T,⟨0,(T.length:Int), [], []⟩)
 else if kind=6 then (T,⟨0,((fM T D).length:Int), [], []⟩)
 else if kind=7 then (T,⟨0,((fM T D).length:Int), [],fM T D⟩)
 else if kind=8 then (T,⟨0,0, [], []⟩)
 else (T,⟨1,0, [], []⟩)
theorem kX {n:Nat} {p k:Int} (h:eD n p k=true):∃a b:Nat,p=(a:Int)/\k=(b:Int)/\a+b<=n:=by
 unfold eD at h;have:=of_decide_eq_true h;exact ⟨p.toNat,k.toNat,by omega,by omega,by omega⟩
end
end Go.Proofs.YthldmddkfbijhaaGreatDoor
