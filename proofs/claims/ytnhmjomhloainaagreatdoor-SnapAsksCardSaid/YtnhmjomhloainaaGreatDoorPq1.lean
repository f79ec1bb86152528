/- Parts of the walk, joined from several texts. Conditions: what each lemma says. -/
import Derived.Test.YtnhmjomhloainaaGreatDoorPq0
import Derived.Orders
import GoSem.Op.String
import Derived.Test.YtnhmjomhloainaaGreatDoorShs
import Derived.Test.YtnhmjomhloainaaGreatDoorShl
import Derived.Sort.OwnSortedInts
import Derived.Shelf.Sort.Plain
import Derived.Lib.TrailingZeros
set_option linter.all false
set_option maxRecDepth 100000
set_option maxHeartbeats 1000000
namespace Go.Proofs.YtnhmjomhloainaaGreatDoor
def jX:List Bool->Nat
 | []=>0
 | b::l=>(if b then 1 else 0)+2*jX l
theorem tR (l:List Bool):jX l < 2 ^ l.length:=by
 induction l with
 | nil=>simp [jX]
 | cons b l ih=>
   simp only [jX,zCf,Nat.pow_succ];cases b <;> simp <;> omega
theorem jD (l:List Bool) (k:Nat):(jX l).testBit k=l.getD k false:=by
 induction l generalizing k with
 | nil=>simp [jX]
 | cons b l ih=>
   cases k with
   | zero=>
     simp only [jX,List.getD_cons_zero,Nat.testBit_zero];cases b <;> simp <;> omega
   | succ k=>
     have h:((if b then 1 else 0)+2*jX l)/ 2=jX l:=(by cases b <;> simp <;> omega);simp only [jX,List.getD_cons_succ,Nat.testBit_succ,h];exact ih k
theorem aBB (a b:List Bool):jX (a++b)=jX a+2 ^ a.length*jX b:=by
 induction a with
 | nil=>simp [jX]
 | cons x a ih=>
   simp only [List.cons_append,jX,ih,zCf,Nat.pow_succ];cases x <;> simp <;> rw [Nat.mul_add,<-Nat.mul_assoc,Nat.mul_comm 2 (2 ^ a.length)] <;> omega
theorem nN (l:List Bool) (n:Nat):bF (jX l) n=(l.take n).count true:=by
 induction n with
 | zero=>simp [nD]
 | succ n ih=>
   rw [dD,ih,jD,zAv,zCc];cases h:l[n]? with
   | none=>simp [zAb,h]
   | some b=>cases b <;> simp [zAb,h]
theorem yX (l:List Bool) (b:Bool):jX (l++ [b])=jX l+if b then 2 ^ l.length else 0:=by
 rw [aBB];cases b <;> simp [jX]
theorem aF9 (a k:Nat) (h:a < 2 ^ k):a||| 2 ^ k=a+2 ^ k:=by
 have:=Nat.two_pow_add_eq_or_of_lt h 1;rw [zBl] at this;rw [Nat.or_comm,<-this,zCq]
def w0 (l:List Bool):Nat:=jX (l.take 64)
def w1 (l:List Bool):Nat:=jX (l.drop 64)
theorem lS (l:List Bool):w0 l < 18446744073709551616:=by
 have h:=tR (l.take 64);have h2:(l.take 64).length<=64:=by rw [zAj];omega
 have h3:=zBp (n:=2) dC h2;unfold w0;omega
theorem lO (l:List Bool) (hl:l.length<=128):w1 l < 18446744073709551616:=by
 have h:=tR (l.drop 64);have h2:(l.drop 64).length<=64:=by rw [zAw];omega
 have h3:=zBp (n:=2) dC h2;unfold w1;omega
theorem aIc (l:List Bool) (hl:l.length<=128):bF (w0 l) 64+bF (w1 l) 64=l.count true:=by
 unfold w0 w1;rw [nN,nN,List.take_take,Nat.min_self,zAg (l:=l.drop 64) (by rw [zAw];omega),<-zCc,zAu]
theorem aIb (l:List Bool) (k:Nat) (hl:l.length<=128) (hk:k<=l.length):bF (w0 l) (min k 64)+bF (w1 l) (min (k - 64) 64)=(l.take k).count true:=by
 unfold w0 w1;rw [nN,nN,List.take_take];rcases zBe k 64 with h | h
 · have e1:min (min k 64) 64=k:=oM;have e2:min (k - 64) 64=0:=oM;rw [e1,e2,List.take_zero,List.count_nil,zBq]
 have e1:min (min k 64) 64=64:=oM;have e2:min (k - 64) 64=k - 64:=oM;rw [e1,e2,<-zCc];congr 1;rw [<-zAu 64 (l.take k),List.take_take,List.drop_take];congr 2;omega
theorem yJ (l:List Bool) (b:Bool) (h:l.length < 64):w0 (l++ [b])=w0 l+(if b then 2 ^ l.length else 0)/\w1 (l++ [b])=w1 l:=by
 unfold w0 w1;rw [zAg (by simp;omega),zAg oM,List.drop_of_length_le (by simp;omega),List.drop_of_length_le oM];exact ⟨yX l b,rfl⟩
theorem yK (l:List Bool) (b:Bool) (h:64<=l.length):w0 (l++ [b])=w0 l/\w1 (l++ [b])=w1 l+(if b then 2 ^(l.length - 64) else 0):=by
 unfold w0 w1;rw [List.take_append_of_le_length h,List.drop_append_of_le_length h,yX,zAw];exact ⟨rfl,rfl⟩
theorem aFl (l:List Bool) (h:l.length < 64):w0 l < 2 ^ l.length:=by
 unfold w0;rw [zAg oM];exact tR l
theorem aFj (l:List Bool):w1 l < 2 ^(l.length - 64):=by
 unfold w1;have:=tR (l.drop 64);rwa [zAw] at this
end Go.Proofs.YtnhmjomhloainaaGreatDoor
namespace Go.Proofs.YtnhmjomhloainaaGreatDoor
open Go.RowKit Go
section
variable {P : Program} {ops : Array Oper} {Q : Exit -> Act -> World -> Prop} {md : Region.Mode}
def sY (md:Region.Mode) (ops:Array Oper) (j t:Nat):Bool:=
 (List.range ops.size).all fun k=>match ops[k]? with
    | some p=>p.dst != some t||k==j||p.after.toList.any (fun e=>Region.binds md e&&e.on==j)
    | none=>true
def iA (md:Region.Mode) (ops:Array Oper) (n:Nat):Bool:=
 (List.range ops.size).all fun k=>match ops[k]? with
    | some p=>p.after.toList.all (fun e=> !Region.binds md e||decide (e.on < k))&&
     (match p.dst with | some d=>decide (d < n)&&(List.range ops.size).all (fun j=>j==k||((ops[j]?).bind (·.dst))!= some d)| none=>true)
    | none=>true
theorem dR {n:Nat} (h:iA md ops n=true) {k:Nat} {p:Oper} (hp:ops[k]?=some p):
 (∀e∈p.after,Region.binds md e=true->e.on < k)/\∀d,p.dst=some d->d < n/\∀j q,ops[j]?=some q->q.dst=some d->j=k:=by
 have hk:k < ops.size:=(zAh.1 hp).1;have h1:=zBf.1 h k (zCi.2 hk);simp only [hp,zBd] at h1;refine ⟨fun e he hb=>?_,fun d hd=>?_⟩;have:=zBf.1 h1.1 e (Array.mem_toList_iff.2 he);simpa [hb] using this;have h2:=h1.2;simp only [hd,zBd,zCa] at h2;refine ⟨h2.1,fun j q hq hqd=>?_⟩;have hj:j < ops.size:=(zAh.1 hq).1;have:=zBf.1 h2.2 j (zCi.2 hj);simp only [hq,Option.bind_some,hqd,Bool.or_eq_true,zCp,bne_self_eq_false,Bool.false_eq_true,or_false] at this;exact this
theorem tN {j t:Nat} (h:sY md ops j t=true) {k:Nat} {p:Oper} (hp:ops[k]?=some p) (hd:p.dst=some t):
 k=j∨∃e∈p.after,Region.binds md e=true/\e.on=j:=by
 have hk:k < ops.size:=(zAh.1 hp).1;have h1:=zBf.1 h k (zCi.2 hk);simp only [hp,hd,Bool.or_eq_true,zCp,bne_self_eq_false,Bool.false_eq_true,false_or] at h1;rcases h1 with h1 | h1;exact .inl h1;obtain ⟨e,he,h2⟩:=List.any_eq_true.1 h1;simp only [zBd,zCp] at h2;exact .inr ⟨e,Array.mem_toList_iff.1 he,h2.1,h2.2⟩
structure Loose (md:Region.Mode) (ops:Array Oper) (S:World->World->Prop) (V:Nat->Value->World->Prop) (a0:Act) (W0:World) (listed:Array Bool) (a:Act) (w:World):Prop where
 world:S W0 w
 size:a.tmps.size=a0.tmps.size
 defers:a.defers=a0.defers
 old:∀t,(∀k p,ops[k]?=some p->p.dst=some t->listed.getD k false=false)->a.tmps.getD t undef=a0.tmps.getD t undef
 val:∀i o d,ops[i]?=some o->listed.getD i false=true->o.dst=some d->V i (a.tmps.getD d undef) w
 shut:∀k p,ops[k]?=some p->listed.getD k false=true->∀e∈p.after,Region.binds md e=true->listed.getD e.on false=true
theorem bI (l:Array Bool) (i:Nat) (h:i < l.size) (d:Bool):(l.setIfInBounds i true).getD i d=true:=by simp [h]
theorem eH (l:Array Bool) (i k:Nat) (h:(l.setIfInBounds i true).getD k false=true):k=i∨l.getD k false=true:=by
 by_cases hk:i=k;exact .inl hk.symm;rw [getD_set_ne false hk] at h;exact .inr h
def gQ (P:Program) (ops:Array Oper) (Q:Exit->Act->World->Prop) (md:Region.Mode) (S:World->World->Prop) (V:Nat->Value->World->Prop) (a0:Act) (W0:World) (j:Nat) (o:Oper):Prop:=
 ∀a w,S W0 w->a.tmps.size=a0.tmps.size->a.defers=a0.defers->
    (∀t,sY md ops j t=true->a.tmps.getD t undef=a0.tmps.getD t undef)->
    (∀e∈o.after,Region.binds md e=true->∀p d,ops[e.on]?=some p->p.dst=some d->V e.on (a.tmps.getD d undef) w)->
    ∀K:Act->World->Prop,(∀v w',S w w'->V j v w'->K (a.put o.dst v) w')->wpOp P ops Q j K a w
theorem tG {S:World->World->Prop} {V:Nat->Value->World->Prop} {a0:Act} {W0:World} {j:Nat} {o:Oper} (ho:ops[j]?=some o) (hg:o.guard=none)
 (h:∀ev:Operand->Value,∀w,S W0 w->(∀v,ev (.const v)=v)->(∀f,ev (.func f)=.func (.func f) #[] #[])->(∀t,sY md ops j t=true->ev (.tmp t)=a0.eval (.tmp t))->
  (∀i d,o.after.toList.any (fun e=>Region.binds md e&&e.on==i)=true->((ops[i]?).bind (·.dst))=some d->V i (ev (.tmp d)) w)->
  ∀a K,a.eval=ev->(∀v w',S w w'->V j v w'->K (a.put o.dst v) w')->Oper.upon P o a K Q ((execOp ev o).run P w)):gQ P ops Q md S V a0 W0 j o:=by
 intro a w hS hsz hdf hold hval K hK;unfold wpOp;simp only [ho];have hw:Region.wanted o (yielded ops a.tmps)=true:=by unfold Region.wanted;rw [hg]
 rw [zBx hw];refine .inl (h a.eval w hS (fun _=>rfl) (fun _=>rfl) (fun t ht=>hold t ht) (fun i d hi hd=>?_) a K rfl hK);obtain ⟨e,he,h2⟩:=List.any_eq_true.1 hi;simp only [zBd,zCp] at h2;obtain ⟨h3,rfl⟩:=h2;cases hp:ops[e.on]? with
 | none=>rw [hp] at hd;cases hd
 | some p=>rw [hp] at hd;exact hval e (Array.mem_toList_iff.1 he) h3 p d hp hd
theorem aL {S:World->World->Prop} {V:Nat->Value->World->Prop} {a0:Act} {W0:World} {j g d:Nat} {b:Bool} {o:Oper} (ho:ops[j]?=some o) (hg:o.guard=some (g,b))
 (hgd:((ops[g]?).bind (·.dst))=some d) (hga:o.after.toList.any (fun e=>Region.binds md e&&e.on==g)=true)
 (hv:∀v w,S W0 w->V g v w->v=.bool b)
 (h:∀ev:Operand->Value,∀w,S W0 w->(∀v,ev (.const v)=v)->(∀f,ev (.func f)=.func (.func f) #[] #[])->(∀t,sY md ops j t=true->ev (.tmp t)=a0.eval (.tmp t))->
  (∀i d,o.after.toList.any (fun e=>Region.binds md e&&e.on==i)=true->((ops[i]?).bind (·.dst))=some d->V i (ev (.tmp d)) w)->
  ∀a K,a.eval=ev->(∀v w',S w w'->V j v w'->K (a.put o.dst v) w')->Oper.upon P o a K Q ((execOp ev o).run P w)):gQ P ops Q md S V a0 W0 j o:=by
 intro a w hS hsz hdf hold hval K hK;have hval':∀i d,o.after.toList.any (fun e=>Region.binds md e&&e.on==i)=true->((ops[i]?).bind (·.dst))=some d->V i (a.eval (.tmp d)) w:=by
  intro i d hi hd;obtain ⟨e,he,h2⟩:=List.any_eq_true.1 hi;simp only [zBd,zCp] at h2;obtain ⟨h3,rfl⟩:=h2;cases hp:ops[e.on]? with
  | none=>rw [hp] at hd;cases hd
  | some p=>rw [hp] at hd;exact hval e (Array.mem_toList_iff.1 he) h3 p d hp hd
 have hb:=hv _ _ hS (hval' g d hga hgd);unfold wpOp;simp only [ho];have hw:Region.wanted o (yielded ops a.tmps)=true:=by
  unfold Region.wanted;rw [hg];have:yielded ops a.tmps g=some b:=by
   unfold yielded;rw [hgd];change a.tmps.getD d undef=.bool b at hb;rw [zAm] at hb;rw [Option.bind_some];cases ht:a.tmps[d]? with
   | none=>rw [ht] at hb;cases hb
   | some u=>rw [ht] at hb;simp only [Option.getD_some] at hb;rw [hb]
  simp only [this,beq_self_eq_true]
 rw [zBx hw];exact .inl (h a.eval w hS (fun _=>rfl) (fun _=>rfl) (fun t ht=>hold t ht) hval' a K rfl hK)
theorem cT {S:World->World->Prop} {V:Nat->Value->World->Prop} {a0:Act} {W0:World} {j g d:Nat} {b:Bool} {o:Oper} (ho:ops[j]?=some o) (hg:o.guard=some (g, !b))
 (hgd:((ops[g]?).bind (·.dst))=some d) (hga:o.after.toList.any (fun e=>Region.binds md e&&e.on==g)=true)
 (hv:∀v w,S W0 w->V g v w->v=.bool b) (hrefl:∀w,S w w)
 (h:∀w,V j undef w):gQ P ops Q md S V a0 W0 j o:=by
 intro a w hS hsz hdf hold hval K hK;obtain ⟨e,he,h2⟩:=List.any_eq_true.1 hga;simp only [zBd,zCp] at h2;obtain ⟨h3,rfl⟩:=h2;have hb:a.tmps.getD d undef=.bool b:=by
  cases hp:ops[e.on]? with
  | none=>rw [hp] at hgd;cases hgd
  | some p=>rw [hp] at hgd;exact hv _ _ hS (hval e (Array.mem_toList_iff.1 he) h3 p d hp hgd)
 unfold wpOp;simp only [ho];have hw:Region.wanted o (yielded ops a.tmps)=false:=by
  unfold Region.wanted;rw [hg];have:yielded ops a.tmps e.on=some b:=by
   unfold yielded;rw [hgd];rw [zAm] at hb;rw [Option.bind_some];cases ht:a.tmps[d]? with
   | none=>rw [ht] at hb;cases hb
   | some u=>rw [ht] at hb;simp only [Option.getD_some] at hb;rw [hb]
  simp only [this];cases b <;> rfl
 rw [zBw (by rw [hw];decide)];exact hK _ _ (hrefl w) (h w)
theorem aG {T:Nat->Oper->Prop} {k:Nat}:∀j p,([]:List Oper)[j]?=some p->T (k+j) p:=by intro j p h;simp at h
theorem aA {T:Nat->Oper->Prop} {k:Nat} {o:Oper} {l:List Oper} (h:T k o) (hl:∀j p,l[j]?=some p->T (k+1+j) p):∀j p,(o::l)[j]?=some p->T (k+j) p:=by
 intro j p hj;cases j with
 | zero=>simp at hj;subst hj;exact h
 | succ j=>simp at hj;have:=hl j p hj;rwa [show k+1+j=k+(j+1) by omega] at this
theorem sC {P:Program} {ops:Array Oper} {Q:Exit->Act->World->Prop} {md:Region.Mode} {S:World->World->Prop} {V:Nat->Value->World->Prop} {a0:Act} {W0:World} {k:Nat} {o:Oper} {l:List Oper} (h:∀ev:Operand->Value,∀w,S W0 w->(∀v,ev (.const v)=v)->(∀f,ev (.func f)=.func (.func f) #[] #[])->(∀t,sY md ops k t=true->ev (.tmp t)=a0.eval (.tmp t))->(∀i d,o.after.toList.any (fun e=>Region.binds md e&&e.on==i)=true->((ops[i]?).bind (·.dst))=some d->V i (ev (.tmp d)) w)->∀a K,a.eval=ev->(∀v w',S w w'->V k v w'->K (a.put o.dst v) w')->Oper.upon P o a K Q ((execOp ev o).run P w)) (hl:∀j p,l[j]?=some p->gQ P ops Q md S V a0 W0 (k+1+j) p) (ho:ops[k]?=some o:=by rfl) (hg:o.guard=none:=by rfl):∀j p,(o::l)[j]?=some p->gQ P ops Q md S V a0 W0 (k+j) p:=aA (tG ho hg h) hl
theorem pW {P:Program} {ops:Array Oper} {Q:Exit->Act->World->Prop} {md:Region.Mode} {S:World->World->Prop} {V:Nat->Value->World->Prop} {a0:Act} {W0:World} {k:Nat} {o:Oper} {l:List Oper} (i d j c:Nat) (hl:∀j p,l[j]?=some p->gQ P ops Q md S V a0 W0 (k+1+j) p) (ho:ops[k]?=some o:=by rfl) (hg:o.guard=none:=by rfl) (hb:o.after.toList.any (fun e=>Region.binds md e&&e.on==i)=true:=by kernel_rfl) (hd:((ops[i]?).bind (·.dst))=some d:=by rfl) (hb2:o.after.toList.any (fun e=>Region.binds md e&&e.on==j)=true:=by kernel_rfl) (hd2:((ops[j]?).bind (·.dst))=some c:=by rfl) (h:∀(ev:Operand->Value) (w:World),(∀v,ev (.const v)=v)->(∀f,ev (.func f)=.func (.func f) #[] #[])->V i (ev (.tmp d)) w->V j (ev (.tmp c)) w->∀(a:Act) (K:Act->World->Prop),a.eval=ev->(∀v w',S w w'->V k v w'->K (a.put o.dst v) w')->Oper.upon P o a K Q ((execOp ev o).run P w):=by (intro ev w hc hf e0 f0 a K ha hK;have e:_=_:=e0;have f:_=_:=f0;go_simp;first|exact kq hK rfl|exact hK _ _ (VisK.refl _ _) rfl|exact hK _ _ (Below.refl _ _) rfl|exact hK _ _ (aH (VisK.refl _ _)) rfl)):∀j p,(o::l)[j]?=some p->gQ P ops Q md S V a0 W0 (k+j) p:=aA (tG ho hg fun ev w _ hc hf hold hval a K ha hK=>h ev w hc hf (hval i d hb hd) (hval j c hb2 hd2) a K ha hK) hl
theorem pV {P:Program} {ops:Array Oper} {Q:Exit->Act->World->Prop} {md:Region.Mode} {S:World->World->Prop} {V:Nat->Value->World->Prop} {a0:Act} {W0:World} {k:Nat} {o:Oper} {l:List Oper} (i d:Nat) (hl:∀j p,l[j]?=some p->gQ P ops Q md S V a0 W0 (k+1+j) p) (ho:ops[k]?=some o:=by rfl) (hg:o.guard=none:=by rfl) (hb:o.after.toList.any (fun e=>Region.binds md e&&e.on==i)=true:=by kernel_rfl) (hd:((ops[i]?).bind (·.dst))=some d:=by rfl) (h:∀(ev:Operand->Value) (w:World),(∀v,ev (.const v)=v)->(∀f,ev (.func f)=.func (.func f) #[] #[])->V i (ev (.tmp d)) w->∀(a:Act) (K:Act->World->Prop),a.eval=ev->(∀v w',S w w'->V k v w'->K (a.put o.dst v) w')->Oper.upon P o a K Q ((execOp ev o).run P w):=by (intro ev w hc hf e0 a K ha hK;have e:_=_:=e0;go_simp;first|exact kq hK rfl|exact hK _ _ (VisK.refl _ _) rfl|exact hK _ _ (Below.refl _ _) rfl|exact hK _ _ (aH (VisK.refl _ _)) rfl)):∀j p,(o::l)[j]?=some p->gQ P ops Q md S V a0 W0 (k+j) p:=aA (tG ho hg fun ev w _ hc hf hold hval a K ha hK=>h ev w hc hf (hval i d hb hd) a K ha hK) hl
theorem pH {P:Program} {ops:Array Oper} {Q:Exit->Act->World->Prop} {md:Region.Mode} {S:World->World->Prop} {V:Nat->Value->World->Prop} {a0:Act} {W0:World} {k:Nat} {o:Oper} {l:List Oper} (t:Nat) (x:Value) (hl:∀j p,l[j]?=some p->gQ P ops Q md S V a0 W0 (k+1+j) p) (ho:ops[k]?=some o:=by rfl) (hg:o.guard=none:=by rfl) (hb:sY md ops k t=true:=by kernel_rfl) (hx:a0.eval (.tmp t)=x:=by rfl) (h:∀(ev:Operand->Value) (w:World),(∀v,ev (.const v)=v)->(∀f,ev (.func f)=.func (.func f) #[] #[])->ev (.tmp t)=x->∀(a:Act) (K:Act->World->Prop),a.eval=ev->(∀v w',S w w'->V k v w'->K (a.put o.dst v) w')->Oper.upon P o a K Q ((execOp ev o).run P w):=by (intro ev w hc hf e a K ha hK;go_simp;first|exact kq hK rfl|exact hK _ _ (VisK.refl _ _) rfl|exact hK _ _ (Below.refl _ _) rfl|exact hK _ _ (aH (VisK.refl _ _)) rfl)):∀j p,(o::l)[j]?=some p->gQ P ops Q md S V a0 W0 (k+j) p:=aA (tG ho hg fun ev w _ hc hf hold hval a K ha hK=>h ev w hc hf ((hold t hb).trans hx) a K ha hK) hl
theorem aT {T:Nat->Oper->Prop} {l:List Oper} (h:∀j p,l[j]?=some p->T (0+j) p):∀j p,l.toArray[j]?=some p->T j p:=by
 intro j p hj;have:=h j p (by simpa using hj);rwa [zBi] at this
def is (c:Value):Value->World->Prop:=fun v _=>v=c
def row (sz n:Nat) (xs:List Value):Value->World->Prop:=fun v w=>∃A c,v=.slice A n c/\Rd w w.heap.size sz A n xs/\n<=c/\c<=maxLen
def Grow (w w':World):Prop:=Below w.heap.size w w'
theorem Grow.trans {w w1 w2:World} (h:Grow w w1) (k:Grow w1 w2):Grow w w2:=Below.trans h (Below.mono k (Below.size h))
def Stb (p:Value->World->Prop):Prop:=∀v w w',p v w->Grow w w'->p v w'
theorem uF (c:Value):Stb (is c):=fun _ _ _ h _=>h
theorem pD (sz n:Nat) (xs:List Value):Stb (row sz n xs):=fun _ _ _ ⟨A,c,h1,h2,h3⟩ hb=>⟨A,c,h1,(h2.below hb).mono (Below.size hb),h3⟩
def Vs (l:List (Value->World->Prop)) (i:Nat):Value->World->Prop:=l.getD i fun _ _=>True
theorem pE {l:List (Value->World->Prop)} (h:∀p∈l,Stb p):∀i v w w',Vs l i v w->Grow w w'->Vs l i v w':=by
 intro i v w w' h1 h2;unfold Vs at*
 rw [zAb] at*
 cases hp:l[i]? with
 | none=>exact trivial
 | some p=>rw [hp] at h1;exact h p (zAd hp) _ _ _ h1 h2
theorem aAW (S:World->World->Prop) (V:Nat->Value->World->Prop) (a0:Act) (W0:World)
 (hlaid:iA md ops a0.tmps.size=true) (hrefl:S W0 W0) (htrans:∀w w',S W0 w->S w w'->S W0 w') (hstab:∀i v w w',V i v w->S w w'->V i v w')
 (hstep:∀j o,ops[j]?=some o->gQ P ops Q md S V a0 W0 j o)
 (hend:∀a w,S W0 w->a.tmps.size=a0.tmps.size->a.defers=a0.defers->
  (∀t,(∀(k:Nat) (p:Oper),ops[k]?=some p->p.dst≠some t)->a.tmps.getD t undef=a0.tmps.getD t undef)->
  (∀i o d,ops[i]?=some o->o.dst=some d->V i (a.tmps.getD d undef) w)->Q .normal a w):
 wpAny P md ops Q ops.size (Array.replicate ops.size false) a0 W0:=by
 have done:∀listed a w,listed.size=ops.size->(∀i,i < ops.size->listed.getD i false=true)->Loose md ops S V a0 W0 listed a w->Q .normal a w:=by intro listed a w hl hall h;refine hend a w h.world h.size h.defers (fun t ht=>h.old t fun k p hp hd=>absurd hd (ht k p hp)) fun i o d ho hd=>h.val i o d ho (hall i (zAh.1 ho).1) hd
 have none_ready:∀listed:Array Bool,listed.size=ops.size->Region.ready md ops listed= []->∀i,i < ops.size->listed.getD i false=true:=by
  intro listed hl hr i
  induction i using Nat.strongRecOn with
  | _ i ih=>
    intro hi;cases hc:listed.getD i false with
    | true=>rfl
    | false=>
      exfalso;have hm:i∈Region.ready md ops listed:=(by refine mem_ready.2 ⟨?_,ops[i],zAq hi,fun e he hb=>?_⟩;have hi':i < listed.size:=oM;simp [hi'] at hc⊢;exact hc;have:=(dR hlaid (zAq hi)).1 e he hb;exact ih e.on this oM);rw [hr] at hm;cases hm
 have main:∀fuel listed a w,listed.size=ops.size->listed.toList.count false<=fuel->Loose md ops S V a0 W0 listed a w->wpAny P md ops Q fuel listed a w:=by
  intro fuel
  induction fuel with
  | zero=>
    intro listed a w hl hc h
    have hall:∀i,i < ops.size->listed.getD i false=true:=by
        intro i hi;have hi':i < listed.size:=oM;cases hv:listed.getD i false with
        | true=>rfl
        | false=>
          exfalso;have:false∈listed.toList:=(by simp [hi'] at hv;exact hv ▸(by simp));have:=List.count_pos_iff.2 this;omega
    refine ⟨?_,done listed a w hl hall h⟩;cases hr:Region.ready md ops listed with
    | nil=>rfl
    | cons i l=>
      exfalso;have hi:i∈Region.ready md ops listed:=(by rw [hr];exact List.mem_cons_self ..);obtain ⟨h0,o,ho,_⟩:=mem_ready.1 hi;have hlt:i < ops.size:=(zAh.1 ho).1;have h1:=hall i hlt;have hi':i < listed.size:=oM;simp [hi'] at h0 h1;rw [h0] at h1;cases h1
  | succ fuel ih=>
    intro listed a w hl hc h;refine ⟨fun hr=>done listed a w hl (none_ready listed hl hr) h,fun j hj=>?_⟩;obtain ⟨h0,o,ho,haft⟩:=mem_ready.1 hj;have hlt:j < ops.size:=(zAh.1 ho).1;have hjl:j < listed.size:=oM;have h0':listed.getD j false=false:=(by simp [hjl] at h0⊢;exact h0);refine hstep j o ho a w h.world h.size h.defers (fun t ht=>h.old t fun k p hp hd=>?_) (fun e he hb p d hp hd=>h.val e.on p d hp (haft e he hb) hd) _ fun v w' hS hV=>?_
    · rcases tN ht hp hd with rfl |⟨e,he,hb,heq⟩;exact h0'
      · cases hk:listed.getD k false with
        | false=>rfl
        | true=>
          have:=h.shut k p hp hk e he hb;rw [heq,h0'] at this;cases this
    · refine ih _ _ _ (by simpa using hl) ?_ ?_;have hv:listed.toList[j]'(by simpa using hjl)=false:=(by simp [hjl] at h0'⊢;exact h0');rw [Array.toList_setIfInBounds,List.count_set (by simpa using hjl),hv];simp;have hm:false∈listed.toList:=hv ▸ zBj _;have:=List.count_pos_iff.2 hm;rw [<-Array.count_toList];omega
      · have hsz:(a.put o.dst v).tmps.size=a0.tmps.size:=by
          rw [<-h.size];cases o.dst with
          | none=>rfl
          | some d=>simp [Act.put]
        refine ⟨htrans w w' h.world hS,hsz,?_,fun t ht=>?_,fun i p d hp hi hd=>?_,fun k p hp hk e he hb=>?_⟩
        · rw [<-h.defers];cases o.dst <;> rfl
        · have hne:o.dst≠some t:=fun hd=>by have:=ht j o ho hd;rw [bI _ _ hjl] at this;cases this
          have hold:=h.old t fun k p hp hd=>by
           have:=ht k p hp hd;cases hk:listed.getD k false with
           | false=>rfl
           | true=>
             by_cases hjk:j=k
             · subst hjk;rw [h0'] at hk;cases hk
             · rw [getD_set_ne false hjk,hk] at this;cases this
          rw [<-hold];cases hod:o.dst with
          | none=>rfl
          | some d=>
            have hdt:d≠t:=fun h=>hne (by rw [hod,h]);simp [Act.put,zAm,hdt]
        · rcases eH _ _ _ hi with rfl | hi1;rw [ho] at hp;injection hp with hp;subst hp;have hdl:=((dR hlaid ho).2 d hd).1;have:(a.put o.dst v).tmps.getD d undef=v:=(by rw [hd];have:d < a.tmps.size:=(by rw [h.size];exact hdl);simp [Act.put,zAm,this]);rw [this];exact hV
          · by_cases hij:i=j
            · subst hij;rw [h0'] at hi1;cases hi1
            have:(a.put o.dst v).tmps.getD d undef=a.tmps.getD d undef:=by
              cases hod:o.dst with
              | none=>rfl
              | some d'=>
                have hdt:d'≠d:=fun h=>hij (((dR hlaid ho).2 d' hod).2 i p hp (h ▸ hd));simp [Act.put,zAm,hdt]
            rw [this];exact hstab _ _ _ _ (h.val i p d hp hi1 hd) hS
        rcases eH _ _ _ hk with rfl | hk;rw [ho] at hp;injection hp with hp;subst hp;have h1:=haft e he hb;by_cases hje:k=e.on;rw [<-hje];exact bI _ _ hjl _;rw [getD_set_ne false hje];exact h1;have h1:=h.shut k p hp hk e he hb;by_cases hje:j=e.on;rw [<-hje];exact bI _ _ hjl _;rw [getD_set_ne false hje];exact h1
 refine main _ _ _ _ (by simp) (by simp) ⟨hrefl,rfl,rfl,fun _ _=>rfl,fun i o d ho hi hd=>?_,fun k p hp hk=>?_⟩
 · have hlt:i < ops.size:=(zAh.1 ho).1;simp [hlt] at hi
 · have hlt:k < ops.size:=(zAh.1 hp).1;simp [hlt] at hk
end
end Go.Proofs.YtnhmjomhloainaaGreatDoor
namespace Go.Proofs.YtnhmjomhloainaaGreatDoor
theorem aEN (f:Nat):∀n r pos,n < 128 ^ f->n < 144115188075855872->eD (jW f n++r) true 0 pos=eD r (n==0) n (pos+(jW f n).length):=by
 induction f with
 | zero=>intro n r pos h _;have:n=0:=by simpa using h
         subst this;simp [jW]
 | succ f ih=>
   intro n r pos h h64;by_cases h0:n=0
   · subst h0;simp [mY]
   · rw [jW,zBw h0,zCn,ih (n / 128) _ pos (by rw [Nat.div_lt_iff_lt_mul oM];rw [Nat.pow_succ] at h;exact h) oM];rw [List.singleton_append,lB];have hb:(UInt8.ofNat (n % 128+128)).toNat=n % 128+128:=(by simp [UInt8.toNat_ofNat'];omega);rw [hb,zBw,zBw oM]
     · have e1:n / 128*128+(n % 128+128)% 128=n:=oM;rw [e1,zAi,List.length_singleton,Nat.add_assoc];have:(n==0)=false:=(by simp [h0]);rw [this]
     by_cases h1:n / 128=0;simp [h1];omega;simp [h1];omega
theorem nK (n:Nat) (h:n < 18446744073709551616) (r:List UInt8) (pos:Nat):eD (bK n++r) true 0 pos=some (n,pos+(bK n).length):=by
 unfold bK;rw [zCn,aEN 10 (n / 128) _ pos oM oM,List.singleton_append,lB];have hb:(UInt8.ofNat (n % 128)).toNat=n % 128:=by simp [UInt8.toNat_ofNat'];omega
 rw [hb,zBw,zBx oM,zAi,List.length_singleton];congr 2;omega;simp;omega
theorem aGC (n:Nat):0 < (bK n).length:=by simp [bK]
theorem aGv (a r:List UInt8) (n:Nat) (h:n < 18446744073709551616):eC (a++(bK n++r)) (a.length:Int)=(n,((a.length+(bK n).length:Nat):Int),0):=by
 rw [eC,zBw (by simp;omega)];simp only [zBr,List.drop_left];rw [nK n h]
theorem jC (n:Nat):(jJ n).length=4:=by simp [jJ,uZ]
theorem aGw (k n j:Nat) (h:j < k):(uZ k n)[j]?=some (UInt8.ofNat (n / 256 ^ j % 256)):=by
 induction k with
 | zero=>omega
 | succ k ih=>
   have hl:∀k,(uZ k n).length=k:=fun k=>by induction k with
    | zero=>rfl
    | succ k ih=>simp [uZ,ih]
   rw [uZ];by_cases hj:j=k
   · subst hj;rw [zAo (by rw [hl];omega),hl];simp
   · rw [zAn (by rw [hl];omega),ih oM]
theorem aHw (a b:List UInt8) (n:Nat) (h:n < 4294967296):ofB (a++(jJ n++b)) (a.length:Int)=(n,0):=by
 have h4:=jC n;rw [ofB,zBw (by simp;omega),zBw (by simp;omega)];have hg:∀j,j < 4->(a++(jJ n++b))[a.length+j]?=some (UInt8.ofNat (n / 256 ^ j % 256)):=fun j hj=>by rw [zAo oM,Nat.add_sub_cancel_left,zAn oM];exact aGw 4 n j hj
 simp only [ofN,zBr];rw [hg 0 oM,hg 1 oM,hg 2 oM,hg 3 oM];have e:∀m:Nat,(UInt8.ofNat (m % 256)).toNat=m % 256:=fun m=>by simp [UInt8.toNat_ofNat']
 simp only [Option.getD_some,e];congr 1;simp only [Nat.reducePow,Nat.div_one,zBl];omega
end Go.Proofs.YtnhmjomhloainaaGreatDoor
namespace Go.Proofs.YtnhmjomhloainaaGreatDoor
open Go.RowKit
theorem jO:(Tryz.prog.info? 5).map (fun i=>(i.zero,i.size,i.bytes))=some (some (.int .u8 0),1,1):=by kernel_rfl
def uv (n:Nat):Value:=.int .u64 (n:Int)
theorem aH4 (N:Nat):bits .or .u8 ((N:Int)% 256) 128=((N % 128+128:Nat):Int):=by
 have key:∀a:Fin 256,bits .or .u8 ((a.val:Nat):Int) 128=((a.val % 128+128:Nat):Int):=by decide+kernel
 have:=key ⟨N % 256,by omega⟩;simp only at this;rw [show ((N:Int)% 256)=((N % 256:Nat):Int) by omega,this];omega
theorem aIE (N:Nat):bits .and .u8 ((N:Int)% 256) 127=((N % 128:Nat):Int):=by
 have key:∀a:Fin 256,bits .and .u8 ((a.val:Nat):Int) 127=((a.val % 128:Nat):Int):=by decide+kernel
 have:=key ⟨N % 256,by omega⟩;simp only at this;rw [show ((N:Int)% 256)=((N % 256:Nat):Int) by omega,this];omega
theorem aIQ (n e:Nat):Value.int .u8 (bits .or .u8 ((n:Int)/ 2 ^ e % 256) 128)=bv (UInt8.ofNat (n / 2 ^ e % 128+128)):=by
 have:((n:Int)/ 2 ^ e)=((n / 2 ^ e:Nat):Int):=by push_cast;rfl
 rw [this,aH4];unfold bv;congr 1;simp [UInt8.toNat_ofNat'];omega
theorem aIz (n:Nat):Value.int .u8 (bits .and .u8 ((n:Int)% 256) 127)=bv (UInt8.ofNat (n % 128)):=by
 rw [aIE];unfold bv;congr 1;simp [UInt8.toNat_ofNat'];omega
theorem aHW (A:Option Addr) (m c:Nat) (l:List Nat) (w:World) (hr:Rd w w.heap.size 1 A m (l.map uv)) (hl:∀n∈l,n < 18446744073709551616) (hm:m<=100000):
 Calls Tryz.prog 70 #[.slice A m c] w fun e w'=>∃v k,e=.returned v/\w'.ownsRow w.heap.size 5 1 v k ((dH l).map bv)/\Below w.heap.size w w':=by
 obtain ⟨i0,hi0,hz0,hz1,hz2⟩:=info_parts jO;obtain ⟨Hr,Hl⟩:=hqq2 hr hl;have hlen:=hr.1;have Hlen:=lhd hlen;clear hr hl hlen;go_enter Tryz.func70,Tryz.ntmps70;go_wp2;go_loopw [3,9] (fun v i wr=>∃k q:Nat,k<=m/\i=.int .i64 k/\wr.ownsRow w.heap.size 5 1 v q ((dH (l.take k)).map bv)/\Below w.heap.size w wr) (fun _ i _=>m -(intOf i).toNat)
 case atStart=>exact ⟨0,0,zAp _,rfl,World.ownsRow_nil _ _ _ _,Below.refl _ _⟩
 case round=>
  obtain ⟨k,q,hk,rfl,hown,hb⟩:=hrel;by_cases hlt:k < m
  · have hx:∃n,l[k]?=some n:=(by have:=Hlen.out;simp at this;exact ⟨l[k]' oM,zAa oM⟩);obtain ⟨n,hn⟩:=hx;obtain ⟨b,off,u,rfl,hbl,hu,hc⟩:=(Hr.out.below hb).get hlt;rw [zAf,hn] at hu;simp at hu;subst hu;unfold uv at hc;have hn64:n < 18446744073709551616:=Hl.out n (zAd hn);obtain ⟨Hn,H64⟩:=hqq2 hn hn64;clear hn hn64;go_wp2
    go_loop [6] (fun s=>∃j:Nat,j<=9/\s=.int .i64 (7*(j:Int))/\(j=0∨1<=n / 2 ^(7*j))) (fun s=>100 -(intOf s).toNat)
    case atStart=>exact ⟨0,by omega,rfl,.inl rfl⟩
    case round=>
        obtain ⟨j,hj,rfl,hge⟩:=hrel;go_wp2
        · have hbig:(128:Int)<=(n:Int)/ 2 ^(7*j):=(by assumption);have hbig':128<=n / 2 ^(7*j):=(by exact_mod_cast hbig);have hj1:=aEp n j H64.out hj hbig';refine ⟨⟨j+1,hj1,by go_num,.inr (by rw [aIw];omega)⟩,by simp [intOf];omega⟩
        · have hsm:(n:Int)/ 2 ^(7*j) < 128:=(by assumption);have hsm':n / 2 ^(7*j) < 128:=(by exact_mod_cast hsm);go_loopw [3,6] (fun v s wr'=>∃j' q':Nat,j'<=j/\s=.int .i64 (7*(j':Int))/\wr'.ownsRow w.heap.size 5 1 v q' ((dH (l.take k)++jW 10 (n / 2 ^(7*(j'+1)))).map bv)/\Below w.heap.size w wr') (fun _ s _=>(intOf s).toNat)
          case atStart=>exact ⟨j,q,zAs _,rfl,by rw [aIw,Nat.div_eq_of_lt hsm'];simpa [mY] using hown,hb⟩
          case round=>
           obtain ⟨j',q',hj',rfl,hown',hb'⟩:=hrel;have hb2:=hb'.size;have hq:q'<=1100010:=(by have h1:=hown'.1;have h2:=vE (l.take k);have h3:=aBp 10 (n / 2 ^(7*(j'+1)));simp at h1 h2;omega);by_cases h0:j'=0
           · subst h0;go_wp2_with (at_builtin;refine aY _ rfl (.tmp 33) (.tmp 37) _ rfl w.heap.size 5 i0 (.int .u8 0) 1 1 Tryz.underlying23 hi0 hz0 hz1 hz2 rfl dC u3 q' _ rfl hown' rfl rfl (by simp [Value.oneCell']) (by unfold maxLen;omega) oM hb2 ?_;intro v2 w2 hown2 hg2 hs2 hat2);have hb3:=aW hb' hown' hg2 hb2;clear hg2 hat2;go_roundw
             case rel=>refine ⟨k+1,q'+1,by omega,by go_num,?_,hb3⟩;rw [aBC l k n Hn.out];rw [aIz] at hown2;simpa [bK] using hown2
             case measure=>simp [intOf];omega
           · go_wp2_with (at_builtin;refine aY _ rfl (.tmp 24) (.tmp 31) _ rfl w.heap.size 5 i0 (.int .u8 0) 1 1 Tryz.underlying23 hi0 hz0 hz1 hz2 rfl dC u3 q' _ rfl hown' rfl rfl (by simp [Value.oneCell']) (by unfold maxLen;omega) oM hb2 ?_;intro v2 w2 hown2 hg2 hs2 hat2);have hb3:=aW hb' hown' hg2 hb2;refine ⟨⟨j' - 1,q'+1,by omega,eB oM,?_,hb3⟩,by simp [intOf];omega⟩;rw [aIQ] at hown2;obtain ⟨i,rfl⟩:∃i,j'=i+1:=⟨j' - 1,by omega⟩;rw [zBb,yS (n / 2 ^(7*(i+1))),<-aIw];simpa using hown2;exact aHz n i j hj' hge;exact zAl (aIp n i H64.out) dC
  · have hkm:k=m:=oM;subst hkm;go_wp2;go_ret;refine ⟨u3,q,rfl,?_,hb⟩;have:l.take k=l:=zAg (by have:=Hlen.out;simp at this;omega);rw [this] at hown;exact hown
theorem aHX (A:Option Addr) (m c B:Nat) (l:List Nat) (w:World) (hr:Rd w B 1 A m (l.map uv)) (hB:B<=w.heap.size) (hl:∀n∈l,n < 18446744073709551616) (hm:m<=100000):
 Calls Tryz.prog 70 #[.slice A m c] w fun e w'=>∃A' c',e=.returned (.slice A' (dH l).length c')/\Made w' w.heap.size 5 1 A' (dH l).length c' ((dH l).map bv)/\Below w.heap.size w w':=by
 refine (aHW A m c l w (hr.mono hB) hl hm).mono fun e w' ⟨v,k,he,ho,hb⟩=>?_;have hk:(dH l).length=k:=by simpa using ho.1
 subst hk;obtain ⟨A',c',rfl,hm⟩:=aS ho;exact ⟨A',c',he,hm,hb⟩
theorem wS (A:Option Addr) (m c B:Nat) (l:List Nat) (w:World) (bs:List UInt8) (k:Nat) (he:dH l=bs) (hk:bs.length=k) (hr:Rd w B 1 A m (l.map uv)) (hB:B<=w.heap.size) (hl:∀n∈l,n < 18446744073709551616) (hm:m<=100000):
 Calls Tryz.prog 70 #[.slice A m c] w fun e w'=>∃A' c',e=.returned (.slice A' k c')/\Made w' w.heap.size 5 1 A' k c' (bs.map bv)/\Below w.heap.size w w':=by
 subst he;subst hk;exact aHX A m c B l w hr hB hl hm
def rI (T D:List UInt8) (k:Nat):List Nat:=(List.range k).filter fun i=>D.isPrefixOf (T.drop i)
def kG (T D:List UInt8):List Nat:=rI T D (T.length+1 - D.length)
def nv (i:Nat):Value:=iv (i:Int)
theorem aEP (T D:List UInt8) (k:Nat) (h:D.isPrefixOf (T.drop k)=false):rI T D (k+1)=rI T D k:=by
 simp [rI,List.range_succ,List.filter_append,h]
theorem aDE (w:World):Calls Tryz.prog 250 #[.slice none 0 0,.int .i64 0,.int .i64 0] w fun e w'=>e=.returned (.tuple #[])/\w'=w:=by
 go_enter Tryz.func250,Tryz.ntmps250;go_wp2_with fail;go_loopw [6] (fun x wr=>x=.int .i64 1/\wr=w) (fun _ _=>0)
 case atStart=>exact ⟨rfl,rfl⟩
 case round=>obtain ⟨rfl,rfl⟩:=hrel;go_wp2_with fail;go_end0;exact ⟨rfl,rfl⟩
theorem aDD (l:Int) (w:World):Calls Tryz.prog 218 #[.slice none 0 0,.int .i64 0,.int .i64 0,.int .i64 l] w fun e w'=>e=.returned (.tuple #[])/\w'=w:=by
 go_enter Tryz.func218,Tryz.ntmps218;go_wp2_with fail;go_loopw [1,2] (fun x y wr=>x=.int .i64 0/\y=.int .i64 0/\wr=w) (fun _ _ _=>0)
 case atStart=>exact ⟨rfl,rfl,rfl⟩
 case round=>obtain ⟨rfl,rfl,rfl⟩:=hrel;go_wp2_with fail;refine (aDE wr).mono ?_;rintro e w1 ⟨rfl,rfl⟩;go_wp2_with fail;exact bodyPost_ret (results_none rfl _ _ _) rfl ⟨rfl,rfl⟩
theorem aBZ (w:World):Calls Tryz.prog 168 #[.slice none 0 0] w fun e w'=>e=.returned (.tuple #[])/\w'=w:=by
 have hlen:Calls Tryz.prog 178 #[.int .u64 0] w fun e w'=>e=.returned (.int .i64 (Lib.bitLen (0:Int).toNat))/\w'=w:=calls_of_every_depth fun D=>AnyS.bits_LenIn shLen D 0 w oM oM;go_enter Tryz.func168,Tryz.ntmps168;go_wp2_with fail;refine hlen.mono ?_;rintro e w1 ⟨rfl,rfl⟩;go_wp2_with fail;refine (aDD _ w1).mono ?_;rintro e w2 ⟨rfl,rfl⟩;go_wp2_with fail;go_end0;exact ⟨rfl,rfl⟩
theorem aBY (base:Nat) (v:Value) (n:Nat) (zs:List Int) (w:World) (h:w.ownsRow base 3 1 v n (zs.map (Value.int .i64))) (hn:zs.length=n) (hn2:n<=1000):
 ∃A c,v=.slice A n c/\Calls Tryz.prog 168 #[.slice A n c] w fun e w'=>e=.returned (.tuple #[])/\w'.ownsRow base 3 1 (.slice A n c) n ((zs.mergeSort fun x y=>decide (x<=y)).map (Value.int .i64))/\Keep (fun b=>(Value.slice A n c).ownBlock=some b) w w':=by
 subst hn;rcases h.2 with ⟨h1,h2⟩|⟨g,cap,cur,h1,hb,hg,hnc,hm,hsz,htk⟩;subst h1;refine ⟨none,0,by rw [h2],?_⟩;have hz:zs= []:=zBk h2;subst hz;refine (aBZ w).mono ?_;rintro e w' ⟨rfl,rfl⟩;exact ⟨rfl,by simpa using h,Keep.refl _ _⟩
 · subst h1;refine ⟨_,cap,rfl,?_⟩;have hgl:g < w.heap.size:=(zAh.1 hg).1;have hH:Sort.Holds (Value.int .i64) w g 0 zs.toArray:=holds_of_blockI hg (by rw [<-htk];simp);refine (Any.slices_Sort_int shSrt g 0 cap zs w hH hgl oM).mono ?_;rintro e w' ⟨rfl,k,os,rfl⟩;have hgr:=grownBy_sortedI (w:=w) (g:=g) (n:=k) (os:=os) (zs.mergeSort fun x y=>decide (x<=y)).toArray;refine ⟨rfl,ownsRow_sortedI (by simp) hb hg hnc hm hsz,⟨hgr.os,hgr.tape,hgr.output,hgr.size,fun b hb hne=>hgr.block b hb (fun e=>hne e.symm)⟩⟩
end Go.Proofs.YtnhmjomhloainaaGreatDoor
namespace Go.Proofs.YtnhmjomhloainaaGreatDoor
open Go.RowKit Go
def aO (ev:Operand->Value) (ds:List Nat) (a0:Act):Act:=ds.foldl (fun x d=>x.put (some d) (ev (.tmp d))) a0
theorem aHo (a:Act) (ds:List Nat) (a0:Act) (hsz:a.tmps.size=a0.tmps.size):
 (aO a.eval ds a0).tmps.size=a0.tmps.size/\(aO a.eval ds a0).defers=a0.defers/\
 ∀t,(aO a.eval ds a0).tmps.getD t undef=if t∈ds then a.tmps.getD t undef else a0.tmps.getD t undef:=by
 induction ds generalizing a0 with
 | nil=>exact ⟨rfl,rfl,fun t=>by simp [aO]⟩
 | cons d ds ih=>
   have h1:(a0.put (some d) (a.eval (.tmp d))).tmps.size=a0.tmps.size:=(by simp [Act.put]);obtain ⟨i1,i2,i3⟩:=ih (a0.put (some d) (a.eval (.tmp d))) (by rw [h1];exact hsz);refine ⟨i1.trans h1,i2,fun t=>?_⟩;have h2:=i3 t;change (aO a.eval ds (a0.put (some d) (a.eval (.tmp d)))).tmps.getD t undef=_;rw [h2];by_cases ht:t∈ds
   · rw [zBx ht,zBx (List.mem_cons_of_mem _ ht)]
   · rw [zBw ht];by_cases htd:t=d
     · subst htd;rw [zBx (List.mem_cons_self ..)];by_cases hlt:t < a0.tmps.size
       · simp [Act.put,zAm,hlt,Act.eval]
       · have hlt2:¬t < a.tmps.size:=oM;simp [Act.put,zAm,hlt,hlt2]
     · rw [zBw (by simp [htd,ht])];have:d≠t:=fun h=>htd h.symm;simp [Act.put,zAm,this]
theorem mK (a a0:Act) (ds:List Nat) (hsz:a.tmps.size=a0.tmps.size) (hdf:a.defers=a0.defers) (h:∀t,t∉ds->a.tmps.getD t undef=a0.tmps.getD t undef):a=aO a.eval ds a0:=by
 obtain ⟨i1,i2,i3⟩:=aHo a ds a0 hsz;have key:a.tmps=(aO a.eval ds a0).tmps:=by
  apply Array.ext
  · rw [i1,hsz]
  · intro i h1 h2;have:=i3 i;have e1:(aO a.eval ds a0).tmps.getD i undef=(aO a.eval ds a0).tmps[i]:=(by simp [zAm,h2]);have e2:a.tmps.getD i undef=a.tmps[i]:=(by simp [zAm,h1]);rw [e1] at this;rw [this];by_cases hi:i∈ds
    · rw [zBx hi,e2]
    · rw [zBw hi,<-h i hi,e2]
 cases ha:a with
 | mk t d=>
   cases hp:aO a.eval ds a0 with
   | mk t' d'=>
     rw [ha] at hp;rw [hp];rw [ha,hp] at key;rw [ha,hp] at i2;rw [ha] at hdf;simp only at key i2 hdf;rw [key,hdf,i2]
section
variable {P : Program} {ops : Array Oper} {Q : Exit -> Act -> World -> Prop} {md : Region.Mode}
theorem aX (ds:List Nat) (S:World->World->Prop) (V:Nat->Value->World->Prop) (a0:Act) (W0:World)
 (hds:ops.toList.filterMap (·.dst)=ds)
 (hlaid:iA md ops a0.tmps.size=true) (hrefl:S W0 W0) (htrans:∀w w',S W0 w->S w w'->S W0 w') (hstab:∀i v w w',V i v w->S w w'->V i v w')
 (hstep:∀j o,ops[j]?=some o->gQ P ops Q md S V a0 W0 j o)
 (hend:∀(ev:Operand->Value) w,S W0 w->(∀i d,((ops[i]?).bind (·.dst))=some d->V i (ev (.tmp d)) w)->Q .normal (aO ev ds a0) w):
 wpAny P md ops Q ops.size (Array.replicate ops.size false) a0 W0:=by
 refine aAW S V a0 W0 hlaid hrefl htrans hstab hstep fun a w hS hsz hdf hold hval=>?_;have h1:=hend a.eval w hS fun i d hd=>by
  cases ho:ops[i]? with
  | none=>rw [ho] at hd;cases hd
  | some o=>rw [ho] at hd;exact hval i o d ho hd
 rw [<-mK a a0 ds hsz hdf fun t ht=>hold t fun k p hp hd=>ht ?_] at h1;exact h1;rw [<-hds];exact List.mem_filterMap.2 ⟨p,Array.mem_toList_iff.2 (Array.mem_of_getElem? hp),hd⟩
end
end Go.Proofs.YtnhmjomhloainaaGreatDoor
namespace Go.Proofs.YtnhmjomhloainaaGreatDoor
theorem kE (x:Nat) {n m:Nat} (h:n<=m):bF x n<=bF x m:=by
 induction m with
 | zero=>obtain rfl:n=0:=oM
         exact zAs _
 | succ m ih=>
   rw [dD];by_cases hn:n<=m;have:=ih hn;omega;obtain rfl:n=m+1:=oM;rw [dD];exact zAs _
theorem aDN (x:Nat) {i:Nat}:∀ {n:Nat},i < bF x n->∃q,q < n/\x.testBit q=true/\bF x q=i
 | 0,h=>by rw [nD] at h;omega
 | n+1,h=>by
   by_cases h1:i < bF x n;obtain ⟨q,h2,h3,h4⟩:=aDN x h1;exact ⟨q,by omega,h3,h4⟩
   · rw [dD] at h;cases hb:x.testBit n with
     | false=>rw [hb] at h;simp at h;omega
     | true=>
       rw [hb] at h;simp at h;exact ⟨n,by omega,hb,by omega⟩
theorem aGb (x:Nat) {p q:Nat} (hp:x.testBit p=true) (hq:x.testBit q=true) (h:bF x p=bF x q):p=q:=by
 rcases Nat.lt_trichotomy p q with h1 | h1 | h1;have:=kE x (show p+1<=q from h1);rw [dD,hp] at this;simp at this;omega;exact h1;have:=kE x (show q+1<=p from h1);rw [dD,hq] at this;simp at this;omega
theorem aDV {y:Nat} (h0:0 < y) (h:y < 2 ^ 64):∃m,y=2 ^ Lib.ctz 64 y*(2*m+1)/\Lib.ctz 64 y < 64:=by
 obtain ⟨m,h1,h2⟩:=Lib.ctzFrom_spec 64 y h0 h;have e:Lib.ctz 64 y=Lib.ctzFrom 64 y:=by unfold Lib.ctz;rw [zBw oM]
 exact ⟨m,by rw [e];exact h1,by rw [e];exact h2⟩
theorem aAa (k m q:Nat):(2 ^ k*(2*m+1)).testBit q=if q < k then false else if q=k then true else m.testBit (q - k - 1):=by
 rw [Nat.mul_comm,Nat.testBit_mul_two_pow];by_cases h1:q < k;rw [zBx h1,zBy oM];rfl
 · rw [zBw h1,zBz oM,Bool.true_and];by_cases h2:q=k
   · rw [zBx h2];subst h2;rw [Nat.sub_self];simp [Nat.testBit_zero]
   · rw [zBw h2];obtain ⟨d,hd⟩:∃d,q - k=d+1:=⟨q - k - 1,by omega⟩;rw [hd,Nat.testBit_succ];have:(2*m+1)/ 2=m:=oM;rw [this];congr 1
theorem aF1 (k m q:Nat):(2 ^ k*(2*m+1) - 1).testBit q=if q < k then true else if q=k then false else m.testBit (q - k - 1):=by
 have hp:0 < 2 ^ k:=Nat.two_pow_pos k;have e:2 ^ k*(2*m+1) - 1=2 ^ k*(2*m)+(2 ^ k - 1):=by rw [Nat.mul_add,zBl];omega
 rw [e,Nat.testBit_two_pow_mul_add _ oM];by_cases h1:q < k
 · rw [zBx h1,zBx h1,Nat.testBit_two_pow_sub_one,zBz h1]
 · rw [zBw h1,zBw h1];by_cases h2:q=k
   · rw [zBx h2];subst h2;rw [Nat.sub_self];simp [Nat.testBit_zero]
   · rw [zBw h2];obtain ⟨d,hd⟩:∃d,q - k=d+1:=⟨q - k - 1,by omega⟩;rw [hd,Nat.testBit_succ];have:2*m / 2=m:=oM;rw [this];congr 1
theorem aEW {y:Nat} (h0:0 < y) (h:y < 2 ^ 64) (q:Nat):(y&&&(y - 1)).testBit q=(y.testBit q&&decide (q≠Lib.ctz 64 y)):=by
 obtain ⟨m,h1,h2⟩:=aDV h0 h;generalize Lib.ctz 64 y=k at h1 h2;subst h1;rw [Nat.testBit_and,aAa,aF1];by_cases a1:q < k
 · simp [a1]
 · by_cases a2:q=k
   · simp [a2]
   · simp [a1,a2]
theorem aD1 {y:Nat} (h0:0 < y) (h:y < 2 ^ 64):y.testBit (Lib.ctz 64 y)=true/\∀q,q < Lib.ctz 64 y->y.testBit q=false:=by
 obtain ⟨m,h1,h2⟩:=aDV h0 h;generalize Lib.ctz 64 y=k at h1 h2⊢;subst h1;refine ⟨?_,fun q hq=>?_⟩
 · rw [aAa,zBw oM,zBx rfl]
 · rw [aAa,zBx hq]
def clr (x:Nat):Nat->Nat
 | 0=>x
 | i+1=>clr x i&&&(clr x i - 1)
theorem aDj (x i:Nat):clr x i<=x:=by
 induction i with
 | zero=>exact zAs _
 | succ i ih=>exact zAk Nat.and_le_left ih
theorem aAl {x:Nat} (hx:x < 2 ^ 64) {p:Nat} (hp:x.testBit p=true):∀i,i<=bF x p->∀q,(clr x i).testBit q=(x.testBit q&&decide (i<=bF x q))
 | 0,_,q=>by simp [clr]
 | i+1,hi,q=>by
   have ih:=aAl hx hp i oM;have hs:(clr x i).testBit p=true:=(by rw [ih,hp,zBz oM];rfl);have h0:0 < clr x i:=by
    rcases zBa (clr x i) with h | h
    · rw [h] at hs;simp at hs
    exact h
   have hlt:clr x i < 2 ^ 64:=Nat.lt_of_le_of_lt (aDj x i) hx;obtain ⟨k1,k2⟩:=aD1 h0 hlt;show (clr x i&&&(clr x i - 1)).testBit q=_;rw [aEW h0 hlt];generalize Lib.ctz 64 (clr x i)=k at k1 k2;rw [ih,zBd,zCa] at k1;obtain ⟨k1,k3⟩:=k1;have hk:bF x k=i:=by
    by_cases h1:i < bF x k
    · obtain ⟨q',a1,a2,a3⟩:=aDN x h1;have:=k2 q' a1;rw [ih,a2,a3] at this;simp at this
    omega
   rw [ih];cases hb:x.testBit q with
   | false=>rfl
   | true=>
     rw [Bool.true_and,Bool.true_and,Bool.eq_iff_iff,zBd,zCa,zCa,zCa];constructor;rintro ⟨h1,h2⟩;by_cases h3:bF x q=i;exact absurd (aGb x hb k1 oM) h2;omega;intro h1;refine ⟨by omega,?_⟩;rintro rfl;omega
theorem aD2 {x:Nat} (hx:x < 2 ^ 64) {p i:Nat} (hp:x.testBit p=true) (hi:i<=bF x p):0 < clr x i:=by
 have:=aAl hx hp i hi p;rw [hp,zBz hi] at this;rcases zBa (clr x i) with h | h
 · rw [h] at this;simp at this
 exact h
theorem aHP {x:Nat} (hx:x < 2 ^ 64) {p j:Nat} (hp:x.testBit p=true) (hj:bF x p=j):Lib.ctz 64 (clr x j)=p:=by
 have h0:=aD2 hx hp (i:=j) oM;have hlt:clr x j < 2 ^ 64:=Nat.lt_of_le_of_lt (aDj x j) hx;obtain ⟨k1,k2⟩:=aD1 h0 hlt;have hb:=aAl hx hp j oM;rcases Nat.lt_trichotomy (Lib.ctz 64 (clr x j)) p with h | h | h;rw [hb,zBd,zCa] at k1;have:=kE x (show Lib.ctz 64 (clr x j)+1<=p from h);rw [dD,k1.1] at this;simp at this;omega;exact h
 · have:=k2 p h;rw [hb,hp,zBz oM] at this;simp at this
def eX (x:Nat) (b:Bool):Nat:=if b then x else 18446744073709551615 - x
theorem aAX (x:Nat) (b:Bool) (h:x < 18446744073709551616):eX x b < 18446744073709551616:=by
 unfold eX;split <;> omega
theorem jY (x:Nat) (b:Bool) (h:x < 18446744073709551616) {q:Nat} (hq:q < 64):(eX x b).testBit q=(x.testBit q==b):=by
 unfold eX;cases b with
 | true=>simp
 | false=>
   have e:18446744073709551615 - x=2 ^ 64 -(x+1):=oM;simp only [Bool.false_eq_true,if_false];rw [e,Nat.testBit_two_pow_sub_succ oM,zBz hq];cases x.testBit q <;> rfl
theorem kU (x:Nat) (l:List Bool) (b:Bool):∀n,n<=l.length->(∀q,q < n->∀c,l[q]?=some c->x.testBit q=(c==b))->bF x n=(l.take n).count b
 | 0,_,_=>by simp [nD]
 | n+1,hn,h=>by have hc:l[n]?=some (l[n]' oM):=zAa oM;rw [dD,kU x l b n oM (fun q hq=>h q oM),zAv,hc,zCc,h n oM _ hc];simp [List.count_cons]
theorem aCp (l:List Bool) {q:Nat} (hq:q < 64) {c:Bool} (h:l[q]?=some c):(w0 l).testBit q=c:=by
 unfold w0;rw [jD,zAb,zBs,zBx hq,h];rfl
theorem aFk (l:List Bool) {q:Nat} {c:Bool} (h:l[64+q]?=some c):(w1 l).testBit q=c:=by
 unfold w1;rw [jD,zAb,zBt,h];rfl
theorem aIg {l:List Bool} {b:Bool} {p j:Nat} (hl:l.length<=128) (hp:l[p]?=some b) (hj:(l.take p).count b=j) (h:p < 64):
 (eX (w0 l) b).testBit p=true/\bF (eX (w0 l) b) p=j/\j < bF (eX (w0 l) b) 64:=by
 have hlt:=lS l;have hpl:=(zAc.1 hp).1;have h1:(eX (w0 l) b).testBit p=true:=by rw [jY _ _ hlt h,aCp l h hp];simp
 have h2:bF (eX (w0 l) b) p=j:=by rw [<-hj];exact kU _ l b p oM fun q hq c hc=>by rw [jY _ _ hlt oM,aCp l oM hc]
 refine ⟨h1,h2,?_⟩;have:=kE (eX (w0 l) b) (show p+1<=64 by omega);rw [dD,h1,h2] at this;simp at this;omega
theorem aIh {l:List Bool} {b:Bool} {p j:Nat} (hl:l.length<=128) (hp:l[p]?=some b) (hj:(l.take p).count b=j) (h:64<=p):
 ∃n k,bF (eX (w0 l) b) 64=n/\n<=j/\j - n=k/\(eX (w1 l) b).testBit (p - 64)=true/\bF (eX (w1 l) b) (p - 64)=k/\k < bF (eX (w1 l) b) 64:=by
 have hlt:=lS l;have hlt1:=lO l hl;have hpl:=(zAc.1 hp).1;have e0:bF (eX (w0 l) b) 64=(l.take 64).count b:=kU _ l b 64 oM fun q hq c hc=>by rw [jY _ _ hlt hq,aCp l hq hc]
 have hsplit:(l.take p).count b=(l.take 64).count b+((l.drop 64).take (p - 64)).count b:=by
  have:l.take p=l.take 64++(l.drop 64).take (p - 64):=by rw [<-List.take_add];congr 1;omega
  rw [this,zCc]
 have h1:(eX (w1 l) b).testBit (p - 64)=true:=by rw [jY _ _ hlt1 oM,aFk l (q:=p - 64) (by rw [show 64+(p - 64)=p by omega];exact hp)];simp
 have h2:bF (eX (w1 l) b) (p - 64)=((l.drop 64).take (p - 64)).count b:=
  kU _ (l.drop 64) b (p - 64) (by rw [zAw];omega) fun q hq c hc=>by rw [zBt] at hc;rw [jY _ _ hlt1 oM,aFk l hc]
 refine ⟨_,_,e0,by omega,rfl,h1,by rw [h2];omega,?_⟩;have:=kE (eX (w1 l) b) (show p - 64+1<=64 by omega);rw [dD,h1,h2] at this;simp at this;omega
end Go.Proofs.YtnhmjomhloainaaGreatDoor
