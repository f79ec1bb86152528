/- Lemmas of the walk. Conditions: each its own. -/
import Derived.Test.YthldmddkfbijhaaGreatDoorPsr4
import Derived.Test.YthldmddkfbijhaaGreatDoorProg
import Derived.Test.YthldmddkfbijhaaGreatDoorShs
import Derived.Test.YthldmddkfbijhaaGreatDoorShl
set_option linter.all false
set_option maxRecDepth 100000
set_option maxHeartbeats 1000000
namespace Go.Proofs.YthldmddkfbijhaaGreatDoor
section
open Go.RowKit
theorem vI (n M:Int) (h:0 < M):∃k:Nat,(IntKind.u64.wrap n).tmod M=(k:Int)/\(k:Int) < M:=by
 have h0:0<=IntKind.u64.wrap n:=by rw [IntKind.wrap_u64];omega
 refine ⟨((IntKind.u64.wrap n).tmod M).toNat,?_,?_⟩;have:=Int.tmod_nonneg M h0;omega;have h1:=Int.tmod_nonneg M h0;have h2:=Int.tmod_lt_of_pos (IntKind.u64.wrap n) h;omega
section
variable {w w' : World} {B B' sz n : Nat} {A : Option Addr} {xs : List Value}
end
section
variable {P : Program} (t e : TypeId) (sz : Nat) (ht : P.underlying t = some (.slice e)) (hs : ∀ w, (sizeOf e).run P w = .ok sz w)
include ht hs
end
section
variable {w w' : World} {g : Nat} {t : TypeId} {cs : Array Value}
end
section
variable {F G : Nat -> Prop} {w w1 w' : World}
end
section
variable {P : Program} (w : World)
end
end
section
open Go.RowKit Go
section
variable {P : Program} {ops : Array Oper} {Q : Exit -> Act -> World -> Prop} {md : Region.Mode}
theorem aD1 {S:World->World->Prop} {V:Nat->Value->World->Prop} {a0:Act} {W0:World} {j g d:Nat} {b:Bool} {o:Oper} (ho:ops[j]?=some o) (hg:o.guard=some (g,b))
 (hgd:((ops[g]?).bind (·.dst))=some d) (hga:o.after.toList.any (fun e=>Region.binds md e&&e.on==g)=true)
 (hv:∀v w,S W0 w->V g v w->v=.bool b)
 (h:∀ev:Operand->Value,∀w,S W0 w->(∀v,ev (.const v)=v)->(∀f,ev (.func f)=.func (.func f) #[] #[])->(∀t,rH md ops j t=true->ev (.tmp t)=a0.eval (.tmp t))->
  (∀i d,o.after.toList.any (fun e=>Region.binds md e&&e.on==i)=true->((ops[i]?).bind (·.dst))=some d->V i (ev (.tmp d)) w)->
  ∀a K,a.eval=ev->(∀v w',S w w'->V j v w'->K (a.put o.dst v) w')->Oper.upon P o a K Q ((execOp ev o).run P w)):fX P ops Q md S V a0 W0 j o:=by
 intro a w hS hsz hdf hold hval K hK;have hval':∀i d,o.after.toList.any (fun e=>Region.binds md e&&e.on==i)=true->((ops[i]?).bind (·.dst))=some d->V i (a.eval (.tmp d)) w:=by
  intro i d hi hd;obtain ⟨e,he,h2⟩:=List.any_eq_true.1 hi;simp only [zBd,zCq] at h2;obtain ⟨h3,rfl⟩:=h2;cases hp:ops[e.on]? with
  | none=>rw [hp] at hd;cases hd
  | some p=>rw [hp] at hd;exact hval e (Array.mem_toList_iff.1 he) h3 p d hp hd
 have hb:=hv _ _ hS (hval' g d hga hgd);unfold wpOp;simp only [ho];have hw:Region.wanted o (yielded ops a.tmps)=true:=by
  unfold Region.wanted;rw [hg];have:yielded ops a.tmps g=some b:=by
   unfold yielded;rw [hgd];change a.tmps.getD d undef=.bool b at hb;rw [zAm] at hb;rw [Option.bind_some];cases ht:a.tmps[d]? with
   | none=>rw [ht] at hb;cases hb
   | some u=>rw [ht] at hb;simp only [Option.getD_some] at hb;rw [hb]
  simp only [this,beq_self_eq_true]
 rw [zBx hw];exact .inl (h a.eval w hS (fun _=>rfl) (fun _=>rfl) (fun t ht=>hold t ht) hval' a K rfl hK)
theorem sG {P:Program} {ops:Array Oper} {Q:Exit->Act->World->Prop} {md:Region.Mode} {S:World->World->Prop} {V:Nat->Value->World->Prop} {a0:Act} {W0:World} {k g:Nat} {o:Oper} {l:List Oper} (d:Nat) (b:Bool) (h:∀ev:Operand->Value,∀w,S W0 w->(∀v,ev (.const v)=v)->(∀f,ev (.func f)=.func (.func f) #[] #[])->(∀t,rH md ops k t=true->ev (.tmp t)=a0.eval (.tmp t))->(∀i d,o.after.toList.any (fun e=>Region.binds md e&&e.on==i)=true->((ops[i]?).bind (·.dst))=some d->V i (ev (.tmp d)) w)->∀a K,a.eval=ev->(∀v w',S w w'->V k v w'->K (a.put o.dst v) w')->Oper.upon P o a K Q ((execOp ev o).run P w)) (hl:∀j p,l[j]?=some p->fX P ops Q md S V a0 W0 (k+1+j) p) (ho:ops[k]?=some o:=by rfl) (hg:o.guard=some (g,b):=by rfl) (hd:((ops[g]?).bind (·.dst))=some d:=by rfl) (ha:o.after.toList.any (fun e=>Region.binds md e&&e.on==g)=true:=by kernel_rfl) (hv:∀v w,S W0 w->V g v w->v=.bool b:=by exact fun _ _ _ h=>h):∀j p,(o::l)[j]?=some p->fX P ops Q md S V a0 W0 (k+j) p:=aD (aD1 ho hg hd ha hv h) hl
theorem dJ {S:World->World->Prop} {V:Nat->Value->World->Prop} {a0:Act} {W0:World} {j g d:Nat} {b:Bool} {o:Oper} (ho:ops[j]?=some o) (hg:o.guard=some (g, !b))
 (hgd:((ops[g]?).bind (·.dst))=some d) (hga:o.after.toList.any (fun e=>Region.binds md e&&e.on==g)=true)
 (hv:∀v w,S W0 w->V g v w->v=.bool b) (hrefl:∀w,S w w)
 (h:∀w,V j undef w):fX P ops Q md S V a0 W0 j o:=by
 intro a w hS hsz hdf hold hval K hK;obtain ⟨e,he,h2⟩:=List.any_eq_true.1 hga;simp only [zBd,zCq] at h2;obtain ⟨h3,rfl⟩:=h2;have hb:a.tmps.getD d undef=.bool b:=by
  cases hp:ops[e.on]? with
  | none=>rw [hp] at hgd;cases hgd
  | some p=>rw [hp] at hgd;exact hv _ _ hS (hval e (Array.mem_toList_iff.1 he) h3 p d hp hgd)
 unfold wpOp;simp only [ho];have hw:Region.wanted o (yielded ops a.tmps)=false:=by
  unfold Region.wanted;rw [hg];have:yielded ops a.tmps e.on=some b:=by
   unfold yielded;rw [hgd];rw [zAm] at hb;rw [Option.bind_some];cases ht:a.tmps[d]? with
   | none=>rw [ht] at hb;cases hb
   | some u=>rw [ht] at hb;simp only [Option.getD_some] at hb;rw [hb]
  simp only [this];cases b <;> rfl
 rw [zBw (by rw [hw];decide)];exact hK _ _ (hrefl w) (h w)
theorem sK {P:Program} {ops:Array Oper} {Q:Exit->Act->World->Prop} {md:Region.Mode} {S:World->World->Prop} {V:Nat->Value->World->Prop} {a0:Act} {W0:World} {k g:Nat} {o:Oper} (d:Nat) (b:Bool) (hr:∀w,S w w) (ho:ops[k]?=some o:=by rfl) (hg:o.guard=some (g,!b):=by rfl) (hd:((ops[g]?).bind (·.dst))=some d:=by rfl) (ha:o.after.toList.any (fun e=>Region.binds md e&&e.on==g)=true:=by kernel_rfl) (hv:∀v w,S W0 w->V g v w->v=.bool b:=by exact fun _ _ _ h=>h) (h:∀w,V k undef w:=by exact fun _=>rfl):fX P ops Q md S V a0 W0 k o:=dJ ho hg hd ha hv hr h
end
end
section
theorem lQ (x:Nat) {n m:Nat} (h:n<=m):bJ x n<=bJ x m:=by
 induction m with
 | zero=>obtain rfl:n=0:=oM
         exact zAs _
 | succ m ih=>
   rw [dK];by_cases hn:n<=m;have:=ih hn;omega;obtain rfl:n=m+1:=oM;rw [dK];exact zAs _
theorem aFt (x:Nat) {i:Nat}:∀ {n:Nat},i < bJ x n->∃q,q < n/\x.testBit q=true/\bJ x q=i
 | 0,h=>by rw [oP] at h;omega
 | n+1,h=>by
   by_cases h1:i < bJ x n;obtain ⟨q,h2,h3,h4⟩:=aFt x h1;exact ⟨q,by omega,h3,h4⟩
   · rw [dK] at h;cases hb:x.testBit n with
     | false=>rw [hb] at h;simp at h;omega
     | true=>
       rw [hb] at h;simp at h;exact ⟨n,by omega,hb,by omega⟩
theorem aIo (x:Nat) {p q:Nat} (hp:x.testBit p=true) (hq:x.testBit q=true) (h:bJ x p=bJ x q):p=q:=by
 rcases Nat.lt_trichotomy p q with h1 | h1 | h1;have:=lQ x (show p+1<=q from h1);rw [dK,hp] at this;simp at this;omega;exact h1;have:=lQ x (show q+1<=p from h1);rw [dK,hq] at this;simp at this;omega
theorem aFC {y:Nat} (h0:0 < y) (h:y < 2 ^ 64):∃m,y=2 ^ Lib.ctz 64 y*(2*m+1)/\Lib.ctz 64 y < 64:=by
 obtain ⟨m,h1,h2⟩:=Lib.ctzFrom_spec 64 y h0 h;have e:Lib.ctz 64 y=Lib.ctzFrom 64 y:=by unfold Lib.ctz;rw [zBw oM]
 exact ⟨m,by rw [e];exact h1,by rw [e];exact h2⟩
theorem aBk (k m q:Nat):(2 ^ k*(2*m+1)).testBit q=if q < k then false else if q=k then true else m.testBit (q - k - 1):=by
 rw [Nat.mul_comm,Nat.testBit_mul_two_pow];by_cases h1:q < k;rw [zBx h1,zBy oM];rfl
 · rw [zBw h1,zBz oM,Bool.true_and];by_cases h2:q=k
   · rw [zBx h2];subst h2;rw [Nat.sub_self];simp [Nat.testBit_zero]
   · rw [zBw h2];obtain ⟨d,hd⟩:∃d,q - k=d+1:=⟨q - k - 1,by omega⟩;rw [hd,Nat.testBit_succ];have:(2*m+1)/ 2=m:=oM;rw [this];congr 1
theorem aIf (k m q:Nat):(2 ^ k*(2*m+1) - 1).testBit q=if q < k then true else if q=k then false else m.testBit (q - k - 1):=by
 have hp:0 < 2 ^ k:=Nat.two_pow_pos k;have e:2 ^ k*(2*m+1) - 1=2 ^ k*(2*m)+(2 ^ k - 1):=by rw [Nat.mul_add,zBl];omega
 rw [e,Nat.testBit_two_pow_mul_add _ oM];by_cases h1:q < k
 · rw [zBx h1,zBx h1,Nat.testBit_two_pow_sub_one,zBz h1]
 · rw [zBw h1,zBw h1];by_cases h2:q=k
   · rw [zBx h2];subst h2;rw [Nat.sub_self];simp [Nat.testBit_zero]
   · rw [zBw h2];obtain ⟨d,hd⟩:∃d,q - k=d+1:=⟨q - k - 1,by omega⟩;rw [hd,Nat.testBit_succ];have:2*m / 2=m:=oM;rw [this];congr 1
theorem aGI {y:Nat} (h0:0 < y) (h:y < 2 ^ 64) (q:Nat):(y&&&(y - 1)).testBit q=(y.testBit q&&decide (q≠Lib.ctz 64 y)):=by
 obtain ⟨m,h1,h2⟩:=aFC h0 h;generalize Lib.ctz 64 y=k at h1 h2;subst h1;rw [Nat.testBit_and,aBk,aIf];by_cases a1:q < k
 · simp [a1]
 · by_cases a2:q=k
   · simp [a2]
   · simp [a1,a2]
theorem aFJ {y:Nat} (h0:0 < y) (h:y < 2 ^ 64):y.testBit (Lib.ctz 64 y)=true/\∀q,q < Lib.ctz 64 y->y.testBit q=false:=by
 obtain ⟨m,h1,h2⟩:=aFC h0 h;generalize Lib.ctz 64 y=k at h1 h2⊢;subst h1;refine ⟨?_,fun q hq=>?_⟩
 · rw [aBk,zBw oM,zBx rfl]
 · rw [aBk,zBx hq]
def clr (x:Nat):Nat->Nat
 | 0=>x
 | i+1=>clr x i&&&(clr x i - 1)
theorem aER (x i:Nat):clr x i<=x:=by
 induction i with
 | zero=>exact zAs _
 | succ i ih=>exact zAk Nat.and_le_left ih
theorem aBA {x:Nat} (hx:x < 2 ^ 64) {p:Nat} (hp:x.testBit p=true):∀i,i<=bJ x p->∀q,(clr x i).testBit q=(x.testBit q&&decide (i<=bJ x q))
 | 0,_,q=>by simp [clr]
 | i+1,hi,q=>by
   have ih:=aBA hx hp i oM;have hs:(clr x i).testBit p=true:=(by rw [ih,hp,zBz oM];rfl);have h0:0 < clr x i:=by
    rcases zBa (clr x i) with h | h
    · rw [h] at hs;simp at hs
    exact h
   have hlt:clr x i < 2 ^ 64:=Nat.lt_of_le_of_lt (aER x i) hx;obtain ⟨k1,k2⟩:=aFJ h0 hlt;show (clr x i&&&(clr x i - 1)).testBit q=_;rw [aGI h0 hlt];generalize Lib.ctz 64 (clr x i)=k at k1 k2;rw [ih,zBd,zCa] at k1;obtain ⟨k1,k3⟩:=k1;have hk:bJ x k=i:=by
    by_cases h1:i < bJ x k
    · obtain ⟨q',a1,a2,a3⟩:=aFt x h1;have:=k2 q' a1;rw [ih,a2,a3] at this;simp at this
    omega
   rw [ih];cases hb:x.testBit q with
   | false=>rfl
   | true=>
     rw [Bool.true_and,Bool.true_and,Bool.eq_iff_iff,zBd,zCa,zCa,zCa];constructor;rintro ⟨h1,h2⟩;by_cases h3:bJ x q=i;exact absurd (aIo x hb k1 oM) h2;omega;intro h1;refine ⟨by omega,?_⟩;rintro rfl;omega
theorem aFL {x:Nat} (hx:x < 2 ^ 64) {p i:Nat} (hp:x.testBit p=true) (hi:i<=bJ x p):0 < clr x i:=by
 have:=aBA hx hp i hi p;rw [hp,zBz hi] at this;rcases zBa (clr x i) with h | h
 · rw [h] at this;simp at this
 exact h
theorem aJ7 {x:Nat} (hx:x < 2 ^ 64) {p j:Nat} (hp:x.testBit p=true) (hj:bJ x p=j):Lib.ctz 64 (clr x j)=p:=by
 have h0:=aFL hx hp (i:=j) oM;have hlt:clr x j < 2 ^ 64:=Nat.lt_of_le_of_lt (aER x j) hx;obtain ⟨k1,k2⟩:=aFJ h0 hlt;have hb:=aBA hx hp j oM;rcases Nat.lt_trichotomy (Lib.ctz 64 (clr x j)) p with h | h | h;rw [hb,zBd,zCa] at k1;have:=lQ x (show Lib.ctz 64 (clr x j)+1<=p from h);rw [dK,k1.1] at this;simp at this;omega;exact h
 · have:=k2 p h;rw [hb,hp,zBz oM] at this;simp at this
def fN (x:Nat) (b:Bool):Nat:=if b then x else 18446744073709551615 - x
theorem aCe (x:Nat) (b:Bool) (h:x < 18446744073709551616):fN x b < 18446744073709551616:=by
 unfold fN;split <;> omega
theorem lH (x:Nat) (b:Bool) (h:x < 18446744073709551616) {q:Nat} (hq:q < 64):(fN x b).testBit q=(x.testBit q==b):=by
 unfold fN;cases b with
 | true=>simp
 | false=>
   have e:18446744073709551615 - x=2 ^ 64 -(x+1):=oM;simp only [Bool.false_eq_true,if_false];rw [e,Nat.testBit_two_pow_sub_succ oM,zBz hq];cases x.testBit q <;> rfl
theorem mK (x:Nat) (l:List Bool) (b:Bool):∀n,n<=l.length->(∀q,q < n->∀c,l[q]?=some c->x.testBit q=(c==b))->bJ x n=(l.take n).count b
 | 0,_,_=>by simp [oP]
 | n+1,hn,h=>by have hc:l[n]?=some (l[n]' oM):=zAa oM;rw [dK,mK x l b n oM (fun q hq=>h q oM),zAv,hc,zCc,h n oM _ hc];simp [List.count_cons]
theorem aDR (l:List Bool) {q:Nat} (hq:q < 64) {c:Bool} (h:l[q]?=some c):(w0 l).testBit q=c:=by
 unfold w0;rw [kI,zAb,zBs,zBx hq,h];rfl
theorem aHt (l:List Bool) {q:Nat} {c:Bool} (h:l[64+q]?=some c):(w1 l).testBit q=c:=by
 unfold w1;rw [kI,zAb,zBt,h];rfl
theorem aKC {l:List Bool} {b:Bool} {p j:Nat} (hl:l.length<=128) (hp:l[p]?=some b) (hj:(l.take p).count b=j) (h:p < 64):
 (fN (w0 l) b).testBit p=true/\bJ (fN (w0 l) b) p=j/\j < bJ (fN (w0 l) b) 64:=by
 have hlt:=nM l;have hpl:=(zAc.1 hp).1;have h1:(fN (w0 l) b).testBit p=true:=by rw [lH _ _ hlt h,aDR l h hp];simp
 have h2:bJ (fN (w0 l) b) p=j:=by rw [<-hj];exact mK _ l b p oM fun q hq c hc=>by rw [lH _ _ hlt oM,aDR l oM hc]
 refine ⟨h1,h2,?_⟩;have:=lQ (fN (w0 l) b) (show p+1<=64 by omega);rw [dK,h1,h2] at this;simp at this;omega
theorem aKD {l:List Bool} {b:Bool} {p j:Nat} (hl:l.length<=128) (hp:l[p]?=some b) (hj:(l.take p).count b=j) (h:64<=p):
 ∃n k,bJ (fN (w0 l) b) 64=n/\n<=j/\j - n=k/\(fN (w1 l) b).testBit (p - 64)=true/\bJ (fN (w1 l) b) (p - 64)=k/\k < bJ (fN (w1 l) b) 64:=by
 have hlt:=nM l;have hlt1:=nH l hl;have hpl:=(zAc.1 hp).1;have e0:bJ (fN (w0 l) b) 64=(l.take 64).count b:=mK _ l b 64 oM fun q hq c hc=>by rw [lH _ _ hlt hq,aDR l hq hc]
 have hsplit:(l.take p).count b=(l.take 64).count b+((l.drop 64).take (p - 64)).count b:=by
  have:l.take p=l.take 64++(l.drop 64).take (p - 64):=by rw [<-List.take_add];congr 1;omega
  rw [this,zCc]
 have h1:(fN (w1 l) b).testBit (p - 64)=true:=by rw [lH _ _ hlt1 oM,aHt l (q:=p - 64) (by rw [show 64+(p - 64)=p by omega];exact hp)];simp
 have h2:bJ (fN (w1 l) b) (p - 64)=((l.drop 64).take (p - 64)).count b:=
  mK _ (l.drop 64) b (p - 64) (by rw [zAw];omega) fun q hq c hc=>by rw [zBt] at hc;rw [lH _ _ hlt1 oM,aHt l hc]
 refine ⟨_,_,e0,by omega,rfl,h1,by rw [h2];omega,?_⟩;have:=lQ (fN (w1 l) b) (show p - 64+1<=64 by omega);rw [dK,h1,h2] at this;simp at this;omega
def aU {α:Type} (l:List α) (k:Nat) (x:α):List α:=l.take k++x::l.drop k
theorem gD {α:Type} (l:List α) {k:Nat} (x:α) (h:k<=l.length):(aU l k x).length=l.length+1:=by
 unfold aU;rw [zAi,zAj,zCg,zAw];omega
theorem cZ {α:Type} (l:List α) {k:Nat} (h:k < l.length):(aF l k).length+1=l.length:=by
 unfold aF;rw [zAi,zAj,zAw];omega
theorem jC {α:Type} (l:List α) {k:Nat} (x:α) (h:k<=l.length) (j:Nat):(aU l k x)[j]?=if j < k then l[j]? else if j=k then some x else l[j - 1]?:=by
 unfold aU;have hl:(l.take k).length=k:=by rw [zAj];omega
 by_cases h1:j < k
 · rw [zBx h1,zAn oM,zBs,zBx h1]
 · rw [zBw h1,zAo oM,hl];by_cases h2:j=k;subst h2;rw [zBx rfl,Nat.sub_self];rfl
   · rw [zBw h2];obtain ⟨d,rfl⟩:∃d,j=k+d+1:=⟨j - k - 1,by omega⟩;rw [show k+d+1 - k=d+1 by omega,zCf,zBt];congr 1
theorem nT {α β:Type} (f:α->β) (l:List α) (k:Nat) (x:α):(aU l k x).map f=aU (l.map f) k (f x):=by simp [aU]
theorem rX {α β:Type} (f:α->β) (l:List α) (k:Nat):(aF l k).map f=aF (l.map f) k:=by simp [aF]
theorem fI {α:Type} (l:List α) (k:Nat) (x:α):(aU l k x).Perm (x::l):=by
 unfold aU;exact (List.perm_middle).trans (by rw [zAu])
theorem eL {α:Type} {l:List α} {k:Nat} {x:α} (h:l[k]?=some x):(x::aF l k).Perm l:=by
 obtain ⟨hk,hx⟩:=zAc.1 h;have e:l=l.take k++x::l.drop (k+1):=by rw [<-hx,<-zAx hk,zAu]
 unfold aF;exact (List.perm_middle.symm).trans (by rw [<-e])
theorem oU (l:List Bool) {k:Nat} (x:Bool) (h:k<=l.length) (j:Nat):(aU l k x).getD j false=if j < k then l.getD j false else if j=k then x else l.getD (j - 1) false:=by
 rw [zAb,jC l x h];split
 · rw [zAb]
 · split;rfl
   · rw [zAb]
def rE (x k:Nat) (b:Bool):Nat:=(x % 2 ^ k|||(if b then 2 ^ k else 0))|||(x&&&(18446744073709551615 - x % 2 ^ k))*2 % 18446744073709551616
theorem aJ6 (z j:Nat):(z*2 % 18446744073709551616).testBit j=(decide (j < 64)&&(decide (0 < j)&&z.testBit (j - 1))):=by
 have h:(18446744073709551616:Nat)=2 ^ 64:=dC;rw [h,aIA];congr 1;rcases j with _ | j
 · simp
 · rw [Nat.testBit_succ,Nat.mul_div_cancel _ (by decide:0 < 2)];simp
theorem aBd (x k j:Nat) (b:Bool) (hx:x < 18446744073709551616) (hk:k < 64):(rE x k b).testBit j=if j < k then x.testBit j else if j=k then b else (decide (j < 64)&&x.testBit (j - 1)):=by
 unfold rE;rw [Nat.testBit_or,Nat.testBit_or,aJ6,Nat.testBit_and,aFv _ _ (xK x k hx),aIA,aIA];have hb:(if b then 2 ^ k else 0:Nat).testBit j=(decide (k=j)&&b):=by
  cases b
  · simp
  · simp [aFq]
 rw [hb];by_cases h1:j < k
 · have h3:decide (j - 1 < k)=true:=zBz oM;have h4:decide (k=j)=false:=zBy oM;rw [zBx h1,zBz h1,h3,h4];cases hx0:x.testBit j <;> cases hx1:x.testBit (j - 1)<;> simp
 · rw [zBw h1,zBy h1];by_cases h2:j=k
   · subst h2;rw [zBx rfl];by_cases h0:j=0
     · subst h0;simp
     · have h3:decide (j - 1 < j)=true:=zBz oM;rw [h3];cases hx1:x.testBit (j - 1)<;> simp
   · have h3:decide (j - 1 < k)=false:=zBy oM;have h4:decide (k=j)=false:=zBy oM;have h5:decide (0 < j)=true:=zBz oM;rw [zBw h2,h3,h4,h5];by_cases h6:j < 64
     · have h7:decide (j - 1 < 64)=true:=zBz oM;rw [h7];simp
     · simp [h6]
theorem aKG (l:List Bool) (k:Nat) (b:Bool) (hk:k<=l.length) (hl:l.length<=127) (h:k < 64):w0 (aU l k b)=rE (w0 l) k b/\w1 (aU l k b)=rE (w1 l) 0 (l.getD 63 false):=by
 constructor
 · refine Nat.eq_of_testBit_eq fun j=>?_;rw [aBd _ _ _ _ (nM l) h,jM,jM,jM,oU l b hk];by_cases h1:j < k
   · rw [zBx h1,zBx h1]
   · rw [zBw h1,zBw h1];by_cases h2:j=k
     · rw [zBx h2,zBx h2,zBz oM,Bool.true_and]
     · rw [zBw h2,zBw h2];by_cases h3:j < 64
       · rw [zBz h3,zBz (show j - 1 < 64 by omega),Bool.true_and,Bool.true_and]
       · rw [zBy h3,Bool.false_and,Bool.false_and]
 · refine Nat.eq_of_testBit_eq fun j=>?_;rw [aBd _ _ _ _ (nH l oM) dC,iC,iC,oU l b hk,zBw oM,zBw oM,zBw oM];by_cases h2:j=0
   · subst h2;rw [zBx rfl]
   · rw [zBw h2,show 64+j - 1=64+(j - 1) by omega,iC];by_cases h3:j < 64
     · rw [zBz h3,Bool.true_and]
     rw [zBy h3,Bool.false_and];exact vW l _ oM
theorem aKH (l:List Bool) (k:Nat) (b:Bool) (hk:k<=l.length) (hl:l.length<=127) (h:64<=k):w0 (aU l k b)=w0 l/\w1 (aU l k b)=rE (w1 l) (k - 64) b:=by
 constructor
 · refine Nat.eq_of_testBit_eq fun j=>?_;rw [jM,jM,oU l b hk];by_cases h3:j < 64
   · rw [zBz h3,zBx oM]
   · rw [zBy h3,Bool.false_and,Bool.false_and]
 · refine Nat.eq_of_testBit_eq fun j=>?_;rw [aBd _ _ _ _ (nH l oM) oM,iC,iC,iC,oU l b hk];by_cases h1:j < k - 64
   · rw [zBx oM,zBx h1]
   · rw [zBw oM,zBw h1];by_cases h2:j=k - 64
     · rw [zBx oM,zBx h2]
     · rw [zBw oM,zBw h2,show 64+j - 1=64+(j - 1) by omega];by_cases h3:j < 64
       · rw [zBz h3,Bool.true_and]
       rw [zBy h3,Bool.false_and];exact vW l _ oM
theorem aKY (l:List Bool) (k:Nat) (hk:k < l.length) (hl:l.length<=128) (h:k < 64):w0 (aF l k)=nW (w0 l) k (l.getD 64 false)/\w1 (aF l k)=nW (w1 l) 0 false:=by
 constructor
 · refine Nat.eq_of_testBit_eq fun j=>?_;rw [aBv _ _ _ _ (nM l) h,jM,jM,jM,oZ l hk];by_cases h1:j < k
   · rw [zBx h1,zBx h1]
   · rw [zBw h1,zBw h1];by_cases h2:j < 63
     · rw [zBx h2,zBz (show j < 64 by omega),zBz (show j+1 < 64 by omega)]
     · rw [zBw h2];by_cases h3:j=63;subst h3;rfl
       · rw [zBy h3,zBy (show ¬j < 64 by omega),Bool.false_and,Bool.false_and]
 · refine Nat.eq_of_testBit_eq fun j=>?_;rw [aBv _ _ _ _ (nH l hl) dC,iC,iC,oZ l hk,zBw oM,zBw oM,Bool.and_false];by_cases h2:j < 63
   · rw [zBx h2,show 64+j+1=64+(j+1) by omega,iC]
   rw [zBw h2];exact vW l _ oM
theorem aJn (x:Nat) (hx:x < 18446744073709551616):decide (x / 9223372036854775808=1)=x.testBit 63:=by
 rw [Nat.testBit_eq_decide_div_mod_eq];have:x / 2 ^ 63 % 2=x / 9223372036854775808:=by rw [show (2:Nat)^ 63=9223372036854775808 by decide];omega
 rw [this]
end
section
open Go.RowKit
theorem aC5 (a b:Nat) (ha:a < 18446744073709551616) (hb:b < 18446744073709551616):bits .andNot .u64 (a:Int) (b:Int)=((a&&&(18446744073709551615 - b):Nat):Int):=by
 have ha':a % 2 ^ 64=a:=zBu oM;have hb':b % 2 ^ 64=b:=zBu oM;have hlt:a&&&(18446744073709551615 - b) < 2 ^ 64:=Nat.and_lt_two_pow _ oM;show IntKind.u64.wrap (((BitVec.ofInt 64 (a:Int)&&& ~~~ BitVec.ofInt 64 (b:Int)).toNat:Nat):Int)=_;rw [BitVec.ofInt_natCast,BitVec.ofInt_natCast,BitVec.toNat_and,BitVec.toNat_not,BitVec.toNat_ofNat,BitVec.toNat_ofNat,ha',hb',IntKind.wrap_u64,show 2 ^ 64 - 1 - b=18446744073709551615 - b by omega];omega
theorem aFs {a b:Nat} (ha:a < 18446744073709551616) (hb:b < 18446744073709551616):a||| b < 18446744073709551616:=Nat.or_lt_two_pow (n:=64) ha hb
theorem aC6 (a:Nat) {b:Nat} (hb:b < 18446744073709551616):a&&& b < 18446744073709551616:=Nat.and_lt_two_pow (n:=64) a hb
theorem aEx (x k:Nat) (hk:k < 64):aBl x (k:Int)=x % 2 ^ k:=by
 unfold aBl;rw [show min ((k:Int)).toNat 64=k by omega]
theorem aJl (x k:Nat) (b:Bool) (hx:x < 18446744073709551616) (hk:k < 64) (w:World):
 Calls Tryz.prog 270 #[.int .u64 (x:Int),(k:Int),.bool b] w fun e w'=>e=.returned (.tuple #[.int .u64 ((rE x k b:Nat):Int),.bool (x.testBit 63)])/\w=w':=by
 have hlow:=aEx x k hk;obtain ⟨a,ha⟩:=eqx (x % 2 ^ k);have hal:a < 18446744073709551616:=by rw [<-ha];exact xK x k hx
 obtain ⟨q,hq⟩:=eqx (2 ^ k);have hql:q < 18446744073709551616:=by rw [<-hq];exact Nat.pow_lt_pow_right (a:=2) dC (show k < 64 from hk)
 have hqI:(2:Int)^ k=(q:Int):=by rw [<-hq];push_cast;rfl
 obtain ⟨c,hc⟩:=eqx ((if b then q else 0:Nat));have hcl:c < 18446744073709551616:=by rw [<-hc];split <;> omega
 have h1:IntKind.u64.wrap (q:Int)=(q:Int):=by rw [IntKind.wrap_u64];omega
 have h2:=aGm a c hal hcl;obtain ⟨n1,hn1⟩:∃n,a||| c=n:=⟨_,rfl⟩;have hn1l:n1 < 18446744073709551616:=by rw [<-hn1];exact aFs hal hcl
 have h3:=aC5 x a hx hal;obtain ⟨n2,hn2⟩:∃n,x&&&(18446744073709551615 - a)=n:=⟨_,rfl⟩;have hn2l:n2 < 18446744073709551616:=by rw [<-hn2];exact aC6 _ oM
 obtain ⟨n3,hn3⟩:∃n,n2*2 % 18446744073709551616=n:=⟨_,rfl⟩;have hn3l:n3 < 18446744073709551616:=oM;have h4:IntKind.u64.wrap ((n2:Int)*2)=(n3:Int):=by rw [IntKind.wrap_u64];omega
 have h5:=aGm n1 n3 hn1l hn3l;have hfin:rE x k b=n1||| n3:=by unfold rE;rw [ha,hq,hc,hn1,hn2,hn3]
 have htop:((x:Int)/ 9223372036854775808==1)=x.testBit 63:=by rw [<-aJn x hx,Bool.eq_iff_iff,zCq,zCa];omega
 rw [hn1] at h2;rw [hn2] at h3;rw [hfin,<-htop];have hk0:decide ((k:Int) < 0)=false:=by simp
 have hk1:¬((k:Int)>=64):=oM;have Hlow:=lhd (hlow.trans ha);clear hfin htop hlow ha hq hn1 hn2 hn3;go_enter Tryz.func270,Tryz.ntmps270;go_wp2_with fail;refine (rN x (k:Int) hx oM _).mono ?_;rintro e w1 ⟨rfl,rfl⟩;rw [Hlow.out];cases b with
 | true=>
   rw [zBx rfl] at hc;subst hc;go_wp2_with fail;go_ret2;exact ⟨rfl,rfl⟩
 | false=>
   rw [zBw (by simp)] at hc;subst hc;have h2':bits .or .u64 (a:Int) 0=(n1:Int):=h2;go_wp2_with fail;go_ret2;exact ⟨by rw [<-h5];rfl,rfl⟩
theorem aDM (x k:Nat) (b:Bool) (hx:x < 18446744073709551616) (hk:k < 64) (w:World):
 Calls Tryz.prog 279 #[.int .u64 (x:Int),(k:Int),.bool b] w fun e w'=>e=.returned (.tuple #[.int .u64 ((nW x k b:Nat):Int),.bool (x.testBit k)])/\w=w':=by
 have hlow:=aEx x k hk;have hlow2:=aEx (x / 2) k hk;obtain ⟨a,ha⟩:=eqx (x % 2 ^ k);have hal:a < 18446744073709551616:=by rw [<-ha];exact xK x k hx
 have hx2:x / 2 < 18446744073709551616:=oM;obtain ⟨a2,ha2⟩:∃a,x / 2 % 2 ^ k=a:=⟨_,rfl⟩;have hal2:a2 < 18446744073709551616:=by rw [<-ha2];exact xK _ k hx2
 obtain ⟨y,hy⟩:=eqx (x / 2);have hyI:(x:Int)/ 2=(y:Int):=oM;have hyl:y < 18446744073709551616:=oM;obtain ⟨c,hc⟩:=eqx ((if b then 9223372036854775808 else 0:Nat));have hcl:c < 18446744073709551616:=by rw [<-hc];split <;> omega
 have h3:=aC5 y a2 hyl hal2;obtain ⟨n2,hn2⟩:∃n,y&&&(18446744073709551615 - a2)=n:=⟨_,rfl⟩;have hn2l:n2 < 18446744073709551616:=by rw [<-hn2];exact aC6 _ oM
 have h2:=aGm a n2 hal hn2l;obtain ⟨n1,hn1⟩:∃n,a||| n2=n:=⟨_,rfl⟩;have hn1l:n1 < 18446744073709551616:=by rw [<-hn1];exact aFs hal hn2l
 have h5:=aGm n1 c hn1l hcl;have hfin:nW x k b=n1||| c:=by unfold nW;rw [ha,hy,hc];rw [hy] at ha2;rw [ha2,hn2,hn1]
 obtain ⟨d,hd⟩:=eqx (x / 2 ^ k);have hdI:(x:Int)/ 2 ^ k=(d:Int):=by rw [<-hd];push_cast;rfl
 have hdl:d < 18446744073709551616:=by rw [<-hd];exact Nat.lt_of_le_of_lt (Nat.div_le_self _ _) hx
 have h6:bits .and .u64 (d:Int) 1=((d&&& 1:Nat):Int):=(bits_nat .u64 64 dC (fun n h0 h1=>by rw [IntKind.wrap_u64];omega) d 1 oM dC).1;have htop:(((d&&& 1:Nat):Int)==1)=x.testBit k:=by rw [Nat.testBit_eq_decide_div_mod_eq,hd,Nat.and_one_is_mod,Bool.eq_iff_iff,zCq,zCa];omega
 obtain ⟨d1,hd1⟩:∃z,d&&& 1=z:=⟨_,rfl⟩;rw [hd1] at h6 htop;rw [hn1] at h2;rw [hn2] at h3;rw [hfin,<-htop];have hk0:decide ((k:Int) < 0)=false:=by simp
 have hk1:¬((k:Int)>=64):=oM;rw [hy] at hlow2 ha2;obtain ⟨Hlow,Hlow2⟩:=hqq2 (hlow.trans ha) (hlow2.trans ha2);clear hfin htop hlow hlow2 ha ha2 hy hn1 hn2 hd hd1;go_enter Tryz.func279,Tryz.ntmps279;go_wp2_with fail;refine (rN x (k:Int) hx oM _).mono ?_;rintro e w1 ⟨rfl,rfl⟩;rw [Hlow.out];cases b with
 | true=>
   rw [zBx rfl] at hc;subst hc;have h5':bits .or .u64 (n1:Int) 9223372036854775808=((n1||| 9223372036854775808:Nat):Int):=h5;go_wp2_with fail;refine (rN y (k:Int) hyl oM _).mono ?_;rintro e w1 ⟨rfl,rfl⟩;rw [Hlow2.out];go_wp2_with fail;go_ret2;exact ⟨rfl,rfl⟩
 | false=>
   rw [zBw (by simp)] at hc;subst hc;have h5':bits .or .u64 (n1:Int) 0=((n1||| 0:Nat):Int):=h5;go_wp2_with fail;refine (rN y (k:Int) hyl oM _).mono ?_;rintro e w1 ⟨rfl,rfl⟩;rw [Hlow2.out];go_wp2_with fail;go_ret2;exact ⟨by rw [Nat.or_zero];rfl,rfl⟩
end
section
def vA (t:List UInt8) (k:Nat) (m:List UInt8):List UInt8:=t.take k++(m++t.drop k)
theorem aIx (t:List UInt8) (k:Nat):vA t k []=t:=by
 unfold vA;rw [List.nil_append,zAu]
theorem xJ (t:List UInt8) {k:Nat} (m:List UInt8) (hk:k<=t.length):(vA t k m).length=t.length+m.length:=by
 unfold vA;rw [zAi,zAi,zAj,zAw];omega
theorem aIy (t:List UInt8) {k:Nat} (m:List UInt8) (c:UInt8) (hk:k<=t.length):aU (vA t k m) (k+m.length) c=vA t k (m++ [c]):=by
 have hl:(t.take k).length=k:=by rw [zAj];omega
 unfold aU vA;rw [List.take_append,List.drop_append,hl,Nat.add_sub_cancel_left,List.take_append_of_le_length nL,List.take_length,List.drop_append_of_le_length nL,List.drop_length,zAg oM,List.drop_of_length_le oM];simp
theorem aIQ (t:List UInt8) {p j:Nat} (h:p+j < t.length):aF (t.take p++t.drop (p+j)) p=t.take p++t.drop (p+(j+1)):=by
 have hl:(t.take p).length=p:=by rw [zAj];omega
 unfold aF;rw [List.take_append_of_le_length oM,zAg oM,List.drop_append,hl,List.drop_of_length_le oM,show p+1 - p=1 by omega,List.nil_append,List.drop_drop];rfl
theorem aFI (t:List UInt8) {p j:Nat} (h:p+j<=t.length):(t.take p++t.drop (p+j)).length=t.length - j:=by
 rw [zAi,zAj,zAw];omega
theorem aHT (t D:List UInt8) {p j:Nat} {b:UInt8} (hb:D[j]?=some b) (h:p+j < t.length):(t.take p++(D.take j++t.drop (p+j))).set (p+j) b=t.take p++(D.take (j+1)++t.drop (p+(j+1))):=by
 have hl:(t.take p).length=p:=by rw [zAj];omega
 obtain ⟨hj,e⟩:=zAc.1 hb;have hd:(D.take j).length=j:=by rw [zAj];omega
 rw [List.set_append_right _ _ oM,hl,Nat.add_sub_cancel_left,List.set_append_right _ _ oM,hd,Nat.sub_self,zAx h,List.set_cons_zero,zAv,hb];simp [Nat.add_assoc]
theorem aFo (t D:List UInt8) {p j:Nat} (hj:j<=D.length) (h:p+j<=t.length):(t.take p++(D.take j++t.drop (p+j))).length=t.length:=by
 rw [zAi,zAi,zAj,zAj,zAw];omega
end
section
open Go.RowKit
theorem aFc (w:World):Calls Tryz.prog 217 #[.slice none 0 0,.int .i64 0,.int .i64 0] w fun e w'=>e=.returned (.tuple #[])/\w'=w:=by
 go_enter Tryz.func217,Tryz.ntmps217;go_wp2_with fail;go_loopw [6] (fun x wr=>x=.int .i64 1/\wr=w) (fun _ _=>0)
 case atStart=>exact ⟨rfl,rfl⟩
 case round=>obtain ⟨rfl,rfl⟩:=hrel;go_wp2_with fail;go_end0;exact ⟨rfl,rfl⟩
theorem aFa (l:Int) (w:World):Calls Tryz.prog 184 #[.slice none 0 0,.int .i64 0,.int .i64 0,.int .i64 l] w fun e w'=>e=.returned (.tuple #[])/\w'=w:=by
 go_enter Tryz.func184,Tryz.ntmps184;go_wp2_with fail;go_loopw [1,2] (fun x y wr=>x=.int .i64 0/\y=.int .i64 0/\wr=w) (fun _ _ _=>0)
 case atStart=>exact ⟨rfl,rfl,rfl⟩
 case round=>obtain ⟨rfl,rfl,rfl⟩:=hrel;go_wp2_with fail;refine (aFc wr).mono ?_;rintro e w1 ⟨rfl,rfl⟩;go_wp2_with fail;exact bodyPost_ret (results_none rfl _ _ _) rfl ⟨rfl,rfl⟩
theorem aDl (w:World):Calls Tryz.prog 135 #[.slice none 0 0] w fun e w'=>e=.returned (.tuple #[])/\w'=w:=by
 have hlen:Calls Tryz.prog 185 #[.int .u64 0] w fun e w'=>e=.returned (.int .i64 (Lib.bitLen (0:Int).toNat))/\w'=w:=calls_of_every_depth fun D=>AnyS.bits_LenIn shLen D 0 w oM oM;go_enter Tryz.func135,Tryz.ntmps135;go_wp2_with fail;refine hlen.mono ?_;rintro e w1 ⟨rfl,rfl⟩;go_wp2_with fail;refine (aFa _ w1).mono ?_;rintro e w2 ⟨rfl,rfl⟩;go_wp2_with fail;go_end0;exact ⟨rfl,rfl⟩
theorem aDk (base:Nat) (v:Value) (n:Nat) (zs:List Int) (w:World) (h:w.ownsRow base 3 1 v n (zs.map (Value.int .i64))) (hn:zs.length=n) (hn2:n<=1000):
 ∃A c,v=.slice A n c/\Calls Tryz.prog 135 #[.slice A n c] w fun e w'=>e=.returned (.tuple #[])/\w'.ownsRow base 3 1 (.slice A n c) n ((zs.mergeSort fun x y=>decide (x<=y)).map (Value.int .i64))/\Keep (fun b=>(Value.slice A n c).ownBlock=some b) w w':=by
 subst hn;rcases h.2 with ⟨h1,h2⟩|⟨g,cap,cur,h1,hb,hg,hnc,hm,hsz,htk⟩;subst h1;refine ⟨none,0,by rw [h2],?_⟩;have hz:zs= []:=zBk h2;subst hz;refine (aDl w).mono ?_;rintro e w' ⟨rfl,rfl⟩;exact ⟨rfl,by simpa using h,Keep.refl _ _⟩
 · subst h1;refine ⟨_,cap,rfl,?_⟩;have hgl:g < w.heap.size:=(zAh.1 hg).1;have hH:Sort.Holds (Value.int .i64) w g 0 zs.toArray:=holds_of_blockI hg (by rw [<-htk];simp);refine (Any.slices_Sort_int shSrt g 0 cap zs w hH hgl oM).mono ?_;rintro e w' ⟨rfl,k,os,rfl⟩;have hgr:=grownBy_sortedI (w:=w) (g:=g) (n:=k) (os:=os) (zs.mergeSort fun x y=>decide (x<=y)).toArray;refine ⟨rfl,ownsRow_sortedI (by simp) hb hg hnc hm hsz,⟨hgr.os,hgr.tape,hgr.output,hgr.size,fun b hb hne=>hgr.block b hb (fun e=>hne e.symm)⟩⟩
theorem aFF (T D:List UInt8) (most kind p k:Int):(doM T most kind p k D).1.length<=T.length+D.length:=by
 unfold doM;by_cases k1:kind=1
 · rw [zBx k1];split
   · simp
   · split
     · simp
     simp only [zAi,zAj,zAw];omega
 rw [zBw k1];by_cases k2:kind=2
 · rw [zBx k2];split
   · simp
   simp only [zAi,zAj,zAw];omega
 rw [zBw k2];by_cases k5:kind=5
 · rw [zBx k5];split <;> simp
 rw [zBw k5];by_cases k3:kind=3
 · rw [zBx k3];split
   · simp
   simp only [zAi,zAj,zAw];omega
 rw [zBw k3];by_cases k4:kind=4
 · rw [zBx k4];simp
 rw [zBw k4];by_cases k6:kind=6
 · rw [zBx k6];simp
 rw [zBw k6];by_cases k7:kind=7
 · rw [zBx k7];simp
 rw [zBw k7];by_cases k8:kind=8
 · rw [zBx k8];simp
 rw [zBw k8];simp
end
end Go.Proofs.YthldmddkfbijhaaGreatDoor
