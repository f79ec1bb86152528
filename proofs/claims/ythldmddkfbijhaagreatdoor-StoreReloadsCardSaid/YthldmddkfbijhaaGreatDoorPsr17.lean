/- Lemmas of the walk. Conditions: each its own. -/
import Derived.Test.YthldmddkfbijhaaGreatDoorPsr5
import Derived.Test.YthldmddkfbijhaaGreatDoorPsr14
import Derived.Test.YthldmddkfbijhaaGreatDoorProg
import Derived.Test.YthldmddkfbijhaaGreatDoorShl
import Derived.Test.YthldmddkfbijhaaGreatDoorShi
set_option linter.all false
set_option maxRecDepth 100000
set_option maxHeartbeats 2000000
namespace Go.Proofs.YthldmddkfbijhaaGreatDoor
section
open Go.RowKit
theorem eC (L M:List Nat) (lv p:Nat):aL (L++M) lv p=aL L lv p++aL M lv p:=by
 unfold aL;rw [List.filter_append,zAz]
theorem kZ (x:Nat) (M:List Nat) (lv p:Nat):aL (x::M) lv p=if bG x lv=p then gO x lv::aL M lv p else aL M lv p:=by
 unfold aL;rw [List.filter_cons];by_cases h:bG x lv=p
 · simp [h]
 · simp [h]
theorem sA (L:List Nat) (k lv p:Nat):aL L lv p=aL (L.take k) lv p++aL (L.drop k) lv p:=by
 rw [<-eC,zAu]
theorem aAP (L:List Nat) (k s lv:Nat):(aL (L.take k) lv (bG s lv)).length=fU L k s lv:=by
 rw [jF];rfl
theorem aEW (L:List Nat) (k s lv:Nat):aL (aU L k s) lv (bG s lv)=aU (aL L lv (bG s lv)) (fU L k s lv) (gO s lv):=by
 have hl:=aAP L k s lv;unfold aU;rw [eC,kZ,zBx rfl]
 conv=>rhs;rw [sA L k lv (bG s lv)]
 rw [<-hl,List.take_left,List.drop_left]
theorem zT (L:List Nat) (k s lv p:Nat) (h:bG s lv≠p):aL (aU L k s) lv p=aL L lv p:=by
 unfold aU;rw [eC,kZ,zBw h,<-sA]
theorem aIR {L:List Nat} {k s:Nat} (h:L[k]?=some s):L=L.take k++s::L.drop (k+1):=by
 obtain ⟨hk,hx⟩:=zAc.1 h;rw [<-hx,<-zAx hk,zAu]
theorem aEX {L:List Nat} {k s:Nat} (lv:Nat) (h:L[k]?=some s):aL (aF L k) lv (bG s lv)=aF (aL L lv (bG s lv)) (fU L k s lv):=by
 have hl:=aAP L k s lv;have e:aL L lv (bG s lv)=aL (L.take k) lv (bG s lv)++gO s lv::aL (L.drop (k+1)) lv (bG s lv):=by
  conv=>lhs;rw [aIR h]
  rw [eC,kZ,zBx rfl]
 unfold aF;rw [eC,e];generalize aL (L.take k) lv (bG s lv)=A at hl⊢;generalize aL (L.drop (k+1)) lv (bG s lv)=C;rw [<-hl,List.take_left,List.drop_append,List.drop_eq_nil_of_le oM,show A.length+1 - A.length=1 by omega];rfl
theorem zU {L:List Nat} {k s:Nat} (lv p:Nat) (h:L[k]?=some s) (hp:bG s lv≠p):aL (aF L k) lv p=aL L lv p:=by
 conv=>rhs;rw [aIR h]
 unfold aF;rw [eC,eC,kZ,zBw hp]
theorem aFT {α:Type} (l:List α) (k:Nat) (x:α) (h:k<=l.length):(aU l k x).take k=l.take k:=by
 unfold aU;have hl:(l.take k).length=k:=by rw [zAj];omega
 rw [List.take_append,hl,Nat.sub_self,List.take_zero,List.append_nil,List.take_take,Nat.min_self]
theorem aJY {L:List Nat} {k s M:Nat} (h:∀x∈L,x < M) (hs:s < M):∀x∈aU L k s,x < M:=fun x hx=>by
 rcases List.mem_cons.1 ((fI L k s).mem_iff.1 hx) with rfl | h1;exact hs;exact h x h1
theorem oY {L:List Nat} {k M:Nat} (h:∀x∈L,x < M):∀x∈aF L k,x < M:=fun x hx=>by
 unfold aF at hx;rcases zCp.1 hx with h1 | h1;exact h x (List.mem_of_mem_take h1);exact h x (List.mem_of_mem_drop h1)
theorem aHr (S:Nat->Value) (n m v:Int):(wcells S n v).setIfInBounds 9 (.int .i64 m)=wcells S m v:=by
 unfold wcells;rfl
theorem WaveS.set_n {w:World} {B:Nat} {own:Nat->Nat} {gv:Nat} {S:Nat->Value} {Ls:Nat->List Nat} {n v:Int} (h:WaveS w B own gv S Ls n v) (m:Int):WaveS (w.setCell ⟨gv,9,none⟩ (.int .i64 m)) B own gv S Ls m v:=by
 have hk:Keep (fun b=>b=gv) w (w.setCell ⟨gv,9,none⟩ (.int .i64 m)):=Keep.setCell (F:=fun b=>b=gv) (Keep.refl _ _) (p:=⟨gv,9,none⟩) (.inl rfl) _;refine ⟨by have:=h.blk.set 9 (.int .i64 m);rw [aHr] at this;exact this,h.base,fun lv hl=>?_,fun b hb=>⟨(h.bnd b hb).1,zAl (h.bnd b hb).2 hk.size⟩⟩;obtain ⟨G,g1,g2,g3⟩:=h.rows lv hl;exact ⟨G,aA g1 fun b cs _ hk'=>hk.bk hk' (Bk.ne hk' h.blk dC),g2,fun p hp=>(g3 p hp).keep hk fun b t cs hin hk' _ e=>by
  have e':b=gv:=e;subst e';rw [(aR hk' h.blk).1] at hin;exact absurd hin dC⟩
end
section
def inR (r c:Nat):Nat:=if c<=r then r+1 else r
def bC (r g:Nat):Nat:=if g < r then r - 1 else r
theorem cC {R:List Nat} {p:Nat} (h:p∈R):R[ro R p]?=some p:=zAc.2 ⟨List.idxOf_lt_length_iff.2 h,List.getElem_idxOf _⟩
theorem eV {R:List Nat} {p q:Nat} (hp:p∈R) (hq:q∈R) (h:ro R p=ro R q):p=q:=by
 have h1:=cC hp;rw [h,cC hq] at h1;injection h1 with h1;exact h1.symm
theorem vQ {R:List Nat} (hn:R.Nodup) {a t x:Nat} (ha:R[a]?=some x) (ht:t < R.length):
 (aU (aF R a) t x).Perm R/\ro (aU (aF R a) t x) x=t/\∀p∈R,p≠x->ro (aU (aF R a) t x) p=inR (bC (ro R p) a) t:=by
 have hal:=(zAc.1 ha).1;have hdl:=cZ R hal;have hperm:(aU (aF R a) t x).Perm R:=(fI _ _ _).trans (eL ha);have hn':(aU (aF R a) t x).Nodup:=hperm.nodup_iff.2 hn;refine ⟨hperm,?_,fun p hp hpx=>?_⟩
 · refine fW hn' ?_;rw [jC _ _ oM,zBw oM,zBx rfl]
 · have h1:=cC hp;have hne:ro R p≠a:=fun e=>by rw [e,ha] at h1;injection h1 with h1;exact hpx h1.symm
   refine fW hn' ?_;have hlt:=(zAc.1 h1).1;rw [jC _ _ oM];unfold inR bC;by_cases c1:a < ro R p;rw [zBx c1];by_cases c2:t<=ro R p - 1;rw [zBx c2,zBw oM,zBw oM,dX _ hal,zBw oM];rw [<-h1];congr 1;omega;rw [zBw c2,zBx oM,dX _ hal,zBw oM,<-h1];congr 1;omega
   · rw [zBw c1];by_cases c2:t<=ro R p
     · rw [zBx c2,zBw oM,zBw oM,dX _ hal,zBx oM,<-h1];congr 1
     · rw [zBw c2,zBx oM,dX _ hal,zBx oM,<-h1]
section
variable {S R : List Nat} {N i : Nat}
theorem IsSuf.near (h:IsSuf S R) (he:EndOk S N):Near S R N 0:=by
 obtain ⟨e1,e2,e3⟩:=he;have hperm:R.Perm (List.range (N+1)):=by rw [<-e1];exact h.perm
 have hn:=h.nodup;have hm:∀p,p<=N->p∈R:=fun p hp=>h.mem oM;have hs:∀p q,p<=N->q<=N->ro R p < ro R q->sufLt S p q:=fun p q hp hq hlt=>by have hpl:=(zAc.1 (cC (hm p hp)));have hql:=(zAc.1 (cC (hm q hq)));obtain ⟨h1,h2⟩:=hpl;obtain ⟨h3,h4⟩:=hql;have:=zAr.1 h.sorted _ _ h1 h3 hlt;rwa [h2,h4] at this
 have hs2:∀p q,p<=N->q<=N->sufLt S p q->ro R p < ro R q:=fun p q hp hq hlt=>by rcases Nat.lt_trichotomy (ro R p) (ro R q) with h1 | h1 | h1;exact h1;have:=eV (hm p hp) (hm q hq) h1;subst this;exact (hlt.asymm hlt).elim;exact (hlt.asymm (hs q p hq hp h1)).elim
 have hk:∀p q,p<=N->q<=N->sufLt S p q->S.getD p 0<=S.getD q 0:=fun p q hp hq ⟨w,k,h1,h2,h3⟩=>by
  cases k with
  | zero=>
    rw [zBq,zBq,eZ oM,eZ oM] at h3;omega
  | succ k=>
    have:=h2 0 oM;rw [zBq,zBq,eZ oM,eZ oM] at this;omega
 have hk2:∀p q,p<=N->q<=N->p≠q->S.getD p 0=S.getD q 0->(sufLt S p q↔sufLt S (p+1) (q+1)):=fun p q hp hq hpq heq=>by
  constructor
  · rintro ⟨w,k,h1,h2,h3⟩;cases k with
    | zero=>
      rw [zBq,zBq,eZ oM,eZ oM] at h3;omega
    | succ k=>
      refine ⟨k+1,k,by omega,fun m hm=>?_,?_⟩;have:=h2 (m+1) oM;rw [show p+1+m=p+(m+1) by omega,show q+1+m=q+(m+1) by omega];exact this;rw [show p+1+k=p+(k+1) by omega,show q+1+k=q+(k+1) by omega];exact h3
  exact aCP oM oM heq
 refine ⟨⟨e1,e2,e3⟩,hperm,fun p q hp hq hlt=>hk p q hp hq (hs p q hp hq hlt),fun p q hp hq hpq _ _=>?_⟩;unfold tQ;constructor
 · intro hlt;have h1:=hs p q hp hq hlt;rcases Nat.lt_or_eq_of_le (hk p q hp hq h1) with h2 | h2;exact .inl h2
   · refine .inr ⟨h2,?_⟩;have hpN:p≠N:=fun e=>by subst e;have:=e3 q oM;omega
     have hqN:q≠N:=fun e=>by subst e;have:=e3 p oM;omega
     exact hs2 _ _ oM oM ((hk2 p q hp hq hpq h2).1 h1)
 · rintro (h1 |⟨h1,h2⟩);exact hs2 p q hp hq (aFB oM oM h1)
   · have hpN:p≠N:=fun e=>by subst e;have:=e3 q oM;omega
     have hqN:q≠N:=fun e=>by subst e;have:=e3 p oM;omega
     exact hs2 p q hp hq ((hk2 p q hp hq hpq h1).2 (hs _ _ oM oM h2))
def aBn (S R:List Nat) (N c r:Nat):Nat:=(List.range (N+1)).countP fun p=>decide (S.getD p 0 < c∨(S.getD p 0=c/\ro R (p+1) < r))
theorem aAy {R:List Nat} (hn:R.Nodup) (r:Nat) (f:Nat->Bool):(R.take r).countP f=R.countP fun p=>f p&&decide (ro R p < r):=by
 have h1:R.countP (fun p=>f p&&decide (ro R p < r))=(R.take r).countP (fun p=>f p&&decide (ro R p < r))+(R.drop r).countP (fun p=>f p&&decide (ro R p < r)):=by rw [<-List.countP_append,zAu]
 have h2:(R.drop r).countP (fun p=>f p&&decide (ro R p < r))=0:=by rw [List.countP_eq_zero];intro p hp;obtain ⟨j,hj,e⟩:=zBo.1 hp;rw [List.getElem_drop] at e;have:ro R p=r+j:=fW hn (by rw [<-e];exact zAa _);simp;omega
 have h3:(R.take r).countP (fun p=>f p&&decide (ro R p < r))=(R.take r).countP f:=by refine List.countP_congr fun p hp=>?_;obtain ⟨j,hj,e⟩:=zBo.1 hp;rw [zAj] at hj;rw [List.getElem_take] at e;have:ro R p=j:=fW hn (by rw [<-e];exact zAa _);have hjr:ro R p < r:=oM;simp [hjr]
 rw [h1,h2,h3];rfl
theorem aBy {l:List Nat} {f g:Nat->Bool} (h:∀x∈l,¬(f x=true/\g x=true)):l.countP f+l.countP g=l.countP fun x=>f x||g x:=by
 induction l with
 | nil=>rfl
 | cons x l ih=>
   have hx:=h x (by simp);rw [zBn,zBn,zBn,<-ih fun y hy=>h y (by simp [hy])];cases hf:f x <;> cases hg:g x <;> simp_all <;> omega
theorem rJ (he:EndOk S N) (hp:R.Perm (List.range (N+1))) {c:Nat} (hc:0 < c) (r:Nat):cJ (aE S R) c r=aBn S R N c r:=by
 obtain ⟨e1,e2,e3⟩:=he;have hn:R.Nodup:=hp.nodup_iff.2 List.nodup_range;unfold cJ aBn;have h1:(aE S R).countP (fun x=>decide (x < c))=(List.range (N+1)).countP fun p=>decide (S.getD p 0 < c):=by
  unfold aE;rw [List.countP_map,hp.countP_eq];refine gN _ _ ?_ fun p hp=>?_;simp only [Function.comp];rw [bQ oM,e1];rfl
  · simp only [Function.comp];rw [bE oM]
 have h2:((aE S R).take r).count c=(List.range (N+1)).countP fun p=>decide (S.getD p 0=c)&&decide (ro R (p+1) < r):=by
  unfold aE;rw [<-List.map_take,List.count_eq_countP,List.countP_map,aAy hn,hp.countP_eq];refine gN _ _ ?_ fun p hp=>?_
  · simp only [Function.comp];rw [bQ oM,e1];have:(N+1 - 1)=N:=oM;rw [this,e2];have hc0:¬(0:Nat)=c:=oM;simp [hc0]
  simp only [Function.comp];rw [bE oM];rfl
 rw [h1,h2,aBy]
 · refine List.countP_congr fun p _=>?_;simp
 intro p _ ⟨ha,hb⟩;simp at ha hb;omega
theorem aBf {K:Nat->Bool}:∀ {O:List Nat},O.Pairwise (fun p q=>K q=true->K p=true)->∀(j p:Nat),O[j]?=some p->(K p=true↔j < O.countP K)
 | [],_,j,p,h=>by simp at h
 | x::O,hO,j,p,h=>by
   obtain ⟨h1,h2⟩:=List.pairwise_cons.1 hO;cases hx:K x with
   | true=>
     rw [List.countP_cons_of_pos hx];cases j with
     | zero=>
       injection h with h;subst h;simp [hx]
     | succ j=>
       rw [aBf h2 j p h];omega
   | false=>
     have h0:(x::O).countP K=0:=by
        rw [List.countP_eq_zero];intro y hy;rcases List.mem_cons.1 hy with rfl | hy
        · simp [hx]
        · intro hk;have:=h1 y hy hk;rw [hx] at this;cases this
     rw [h0];have hp:p∈x::O:=zAd h;have:=(List.countP_eq_zero.1 h0) p hp;simp [this]
def KB (S R:List Nat) (i p:Nat):Bool:=decide (S.getD p 0 < S.getD i 0∨(S.getD p 0=S.getD i 0/\ro R (p+1) < ro R (i+1)))
theorem aJW (h:Near S R N (i+1)) (hi:i<=N):∀p,p<=N->p≠i->(KB S R i p=true↔bC (ro R p) (ro R i) < aBn S R N (S.getD i 0) (ro R (i+1))):=by
 intro p hp hpi;have hn:=h.nodup;have hgi:=cC (h.mem.2 hi);have hgp:=cC (h.mem.2 hp);have hil:=(zAc.1 hgi).1;have hperm:=eL hgi;have hnd:(aF R (ro R i)).Nodup:=(List.nodup_cons.1 (hperm.nodup_iff.2 hn)).2;have hne:ro R p≠ro R i:=fun e=>hpi (eV (h.mem.2 hp) (h.mem.2 hi) e);have hat:(aF R (ro R i))[bC (ro R p) (ro R i)]?=some p:=by
  unfold bC;rw [dX _ hil];by_cases c:ro R i < ro R p;rw [zBx c,zBw oM,<-hgp];congr 1;omega
  · rw [zBw c,zBx oM,<-hgp]
 have hcnt:aBn S R N (S.getD i 0) (ro R (i+1))=(aF R (ro R i)).countP (KB S R i):=by
  unfold aBn;rw [<-h.perm.countP_eq,<-hperm.countP_eq,zBn];have h0:decide (S.getD i 0 < S.getD i 0∨(S.getD i 0=S.getD i 0/\ro R (i+1) < ro R (i+1)))=false:=by rw [decide_eq_false_iff_not];omega
  rw [h0];rfl
 rw [hcnt];refine aBf ?_ _ _ hat;rw [zAr];intro a b ha hb hab hkb;have hda:(aF R (ro R i))[a]?=some (aF R (ro R i))[a]:=zAa ha;have hdb:(aF R (ro R i))[b]?=some (aF R (ro R i))[b]:=zAa hb;obtain ⟨x,hx⟩:=eqx ((aF R (ro R i))[a]);obtain ⟨y,hy⟩:=eqx ((aF R (ro R i))[b]);rw [hx] at hda⊢;rw [hy] at hdb hkb;have hni:=(List.nodup_cons.1 (hperm.nodup_iff.2 hn)).1;have hma:=zAd hda;have hmb:=zAd hdb;have hxi:x≠i:=fun e=>hni (by rw [e] at hma;exact hma);have hyi:y≠i:=fun e=>hni (by rw [e] at hmb;exact hmb);have hxR:x∈R:=hperm.subset (by simp [zAd hda]);have hyR:y∈R:=hperm.subset (by simp [zAd hdb]);have hxN:=h.mem.1 hxR;have hyN:=h.mem.1 hyR;have rx:∀ {a' x':Nat},(aF R (ro R i))[a']?=some x'->ro R x'=if a' < ro R i then a' else a'+1:=fun {a' x'} hh=>by rw [dX _ hil] at hh;split at hh;rw [zBx (by assumption)];exact fW hn hh;rw [zBw (by assumption)];exact fW hn hh
 have hlt:ro R x < ro R y:=by rw [rx hda,rx hdb];split <;> split <;> omega
 have hxy:x≠y:=fun e=>by subst e;omega
 have hk:=(h.cons x y hxN hyN hxy oM oM).1 hlt;unfold KB at hkb⊢;rw [zCa] at hkb⊢;unfold tQ at hk;omega
def tgt (S R:List Nat) (i:Nat):Nat:=cJ (aE S R) (S.getD i 0) (ro R (i+1))
theorem aHB (h:Near S R N (i+1)) (hi:i < N):tgt S R i=aBn S R N (S.getD i 0) (ro R (i+1)):=rJ h.endk h.perm (h.endk.pos i hi) _
theorem aHA (h:Near S R N (i+1)) (hi:i < N):tgt S R i < N+1:=by
 rw [aHB h hi];unfold aBn;have hb:(List.range (N+1)).countP (fun p=>decide (S.getD p 0 < S.getD i 0∨(S.getD p 0=S.getD i 0/\ro R (p+1) < ro R (i+1))))≠(List.range (N+1)).length:=fun e=>by have:=(List.countP_eq_length.1 e) i (by simp;omega);rw [zCa] at this;omega
 have hle:=zBh (p:=fun p=>decide (S.getD p 0 < S.getD i 0∨(S.getD p 0=S.getD i 0/\ro R (p+1) < ro R (i+1)))) (l:=List.range (N+1));rw [zCi] at hb hle;omega
theorem aFx (h:Near S R N (i+1)) (hi:i < N) {R':List Nat} {t:Nat} (ht:t=tgt S R i) (hp':R'.Perm R) (hi':ro R' i=t) (ho:∀p∈R,p≠i->ro R' p=inR (bC (ro R p) (ro R i)) t) (j:Nat) (hj:j=i∨(ro R i=t/\j=0)):Near S R' N j:=by
 have hk:=aJW h oM;rw [<-aHB h hi,<-ht] at hk;have hmem:∀p,p<=N->p∈R:=fun p hp=>h.mem.2 hp;have hne:∀p,p<=N->p≠i->ro R p≠ro R i:=fun p hp hpi e=>hpi (eV (hmem p hp) (hmem i oM) e);have hord:∀p q,p<=N->q<=N->p≠i->q≠i->(ro R' p < ro R' q↔ro R p < ro R q):=fun p q hp hq hpi hqi=>by rw [ho p (hmem p hp) hpi,ho q (hmem q hq) hqi];have h1:=hne p hp hpi;have h2:=hne q hq hqi;unfold inR bC;split <;> split <;> split <;> split <;> omega
 have hbef:∀p,p<=N->p≠i->(ro R' p < ro R' i↔KB S R i p=true):=fun p hp hpi=>by rw [hk p hp hpi,hi',ho p (hmem p hp) hpi];unfold inR;split <;> omega
 have haft:∀p,p<=N->p≠i->(ro R' i < ro R' p↔¬KB S R i p=true):=fun p hp hpi=>by rw [hk p hp hpi,hi',ho p (hmem p hp) hpi];unfold inR;split <;> omega
 have hsucc:∀p,p < N->p≠i->(p+1≠i∨ro R i=t)->(ro R (p+1) < ro R (i+1)↔ro R' (p+1) < ro R' (i+1)):=fun p hp hpi hc=>by
  rcases hc with hc | hc;exact (hord (p+1) (i+1) oM oM hc oM).symm
  · have he:∀q,q<=N->ro R' q=ro R q:=fun q hq=>by
        by_cases hqi:q=i;subst hqi;omega
        · rw [ho q (hmem q hq) hqi,hc];have:=hne q hq hqi;unfold inR bC;split <;> split <;> omega
    rw [he _ oM,he _ oM]
 obtain ⟨e1,e2,e3⟩:=h.endk;refine ⟨h.endk,hp'.trans h.perm,fun p q hp hq hlt=>?_,fun p q hp hq hpq hpj hqj=>?_⟩;by_cases hpi:p=i;subst hpi;by_cases hqi:q=p;subst hqi;omega;have:=(haft q hq hqi).1 hlt;unfold KB at this;rw [zCa] at this;omega;by_cases hqi:q=i;subst hqi;have:=(hbef p hp hpi).1 hlt;unfold KB at this;rw [zCa] at this;omega;exact h.first p q hp hq ((hord p q hp hq hpi hqi).1 hlt)
 · have hend:∀x y,x<=N->y<=N->x≠y->S.getD x 0=S.getD y 0->x < N/\y < N:=fun x y hx hy hxy hxye=>by refine ⟨Nat.lt_of_le_of_ne hx fun e=>?_,Nat.lt_of_le_of_ne hy fun e=>?_⟩;subst e;have:=e3 y oM;omega;subst e;have:=e3 x oM;omega
   by_cases hpi:p=i;subst hpi;have hqi:q≠p:=fun e=>hpq e.symm;rw [haft q hq hqi];unfold KB tQ;rw [zCa];by_cases hee:S.getD q 0=S.getD p 0;obtain ⟨hx1,hx2⟩:=hend q p hq hp hqi hee;have:=hsucc q hx1 hqi oM;have hneq:ro R (q+1)≠ro R (p+1):=fun e=>hqi (by have:=eV (hmem (q+1) oM) (hmem (p+1) oM) e;omega);have hneq':ro R' (q+1)≠ro R' (p+1):=fun e=>hqi (by have:=eV ((hp'.trans h.perm).mem_iff.2 (by simp;omega)) ((hp'.trans h.perm).mem_iff.2 (by simp;omega)) e;omega);omega;omega
   · by_cases hqi:q=i;subst hqi;rw [hbef p hp hpi];unfold KB tQ;rw [zCa];by_cases hee:S.getD p 0=S.getD q 0;obtain ⟨hx1,hx2⟩:=hend p q hp hq hpi hee;have:=hsucc p hx1 hpi oM;omega;omega
     · rw [hord p q hp hq hpi hqi,h.cons p q hp hq hpq oM oM];unfold tQ;by_cases hee:S.getD p 0=S.getD q 0
       · obtain ⟨hx1,hx2⟩:=hend p q hp hq hpq hee;by_cases hz:ro R i=t
         · have he:∀q,q<=N->ro R' q=ro R q:=fun q hq=>by
            by_cases hqi:q=i;subst hqi;omega
            · rw [ho q (hmem q hq) hqi,hz];have:=hne q hq hqi;unfold inR bC;split <;> split <;> omega
           rw [he _ oM,he _ oM]
         · rw [hord (p+1) (q+1) oM oM oM oM]
       omega
end
end
section
open Go.RowKit Go.Shelf
theorem iZ (g:Nat):∀(vs:List Value) (o:Nat) (w:World) (t:TypeId) (cs:Array Value),Bk w g t cs->∃cs':Array Value,Bk (w.setCells g o vs) g t cs'/\cs'.size=cs.size/\∀j,j < cs.size->cs'[j]?=if o<=j/\j < o+vs.length then vs[j - o]? else cs[j]?
 | [],o,w,t,cs,h=>⟨cs,h,rfl,fun j hj=>by rw [zBw (by simp)]⟩
 | v::vs,o,w,t,cs,h=>by
   obtain ⟨cs',h1,h2,h3⟩:=iZ g vs (o+1) (w.setCell ⟨g,o,none⟩ v) t _ (h.set o v);refine ⟨cs',h1,by rw [h2];simp,fun j hj=>?_⟩;rw [h3 j (by simpa using hj)];by_cases c:o+1<=j/\j < o+1+vs.length;rw [zBx c,zBx (by simp;omega),show j - o=(j -(o+1))+1 by omega];rfl
   · rw [zBw c,zCd];by_cases e:o=j;subst e;rw [zBx rfl,zBx hj,zBx (by simp),Nat.sub_self];rfl
     · rw [zBw e,zBw (by simp;omega)]
theorem lE (g:Nat):∀(vs:List Value) (o:Nat) (w0 w:World),Keep (fun b=>b=g) w0 w->Keep (fun b=>b=g) w0 (w.setCells g o vs)
 | [],_,_,_,h=>h
 | v::vs,o,w0,w,h=>lE g vs (o+1) w0 (w.setCell ⟨g,o,none⟩ v) (h.setCell (p:=⟨g,o,none⟩) (.inl rfl) v)
theorem gW {F:Nat->Prop} (g:Nat):∀(vs:List Value) (o:Nat) (w0 w:World),w0.heap.size<=g->Keep F w0 w->Keep F w0 (w.setCells g o vs)
 | [],_,_,_,_,h=>h
 | v::vs,o,w0,w,hg,h=>gW g vs (o+1) w0 (w.setCell ⟨g,o,none⟩ v) hg (h.setCell (p:=⟨g,o,none⟩) (.inr hg) v)
theorem gR {cs:Array Value} {xs:List Value} {n:Nat} (hl:xs.length=n) (hn:n<=cs.size) (h:∀j,j < n->cs[j]?=xs[j]?):cs.toList.take n=xs:=by
 apply List.ext_getElem?;intro j;by_cases hj:j < n;rw [List.getElem?_take_of_lt hj,Array.getElem?_toList];exact h j hj
 · rw [List.getElem?_take_eq_none oM,zBg oM]
theorem tO {w:World} {B g n c:Nat} {e:TypeId} {xs:List Value} (h:w.ownsRow B e 1 (.slice (some ⟨g,0,none⟩) n c) n xs) (hn:0 < n):∃cs:Array Value,Bk w g e cs/\cs.size=c/\n<=c/\c<=maxLen/\B<=g/\∀j,j < n->cs[j]?=xs[j]?:=by
 rcases h.2 with ⟨h1,h2⟩|⟨g',cap,cs,h1,hb,hg,hnc,hm,hsz,htk⟩
 · cases h1
 · injection h1 with h1 _ h3;injection h1 with h1;injection h1 with h1 _;subst h1 h3;refine ⟨cs,hg,by omega,hnc,hm,hb,fun j hj=>?_⟩;rw [zBl] at htk;rw [<-htk,List.getElem?_take_of_lt hj,Array.getElem?_toList]
def sW (B:Nat) (v0:Value) (n:Nat) (xs:List Value) (w:World) (e:Ending) (w':World):Prop:=
 ∃A c,e=.returned (.slice A (n+1) c)/\w'.ownsRow B 3 1 (.slice A (n+1) c) (n+1) xs/\Keep (fun b=>v0.ownBlock=some b) w w'/\((Value.slice A (n+1) c).ownBlock=v0.ownBlock∨∃g,(Value.slice A (n+1) c).ownBlock=some g/\w.heap.size<=g)
theorem aAk (B:Nat) (A:Option Addr) (n c i:Nat) (ks:List Nat) (gx k:Nat) (w:World) (hown:w.ownsRow B 3 1 (.slice A n c) n (ks.map sv)) (hx:Bk w gx 3 #[sv k]) (hxg:∀b,(Value.slice A n c).ownBlock=some b->b≠gx) (hB:B<=w.heap.size) (hi:i < n) (hn:n<=1000000):
 Calls Tryz.prog 151 #[.slice A n c,(i:Int),.slice (some ⟨gx,0,none⟩) 1 1] w (sW B (.slice A n c) n ((aU ks i k).map sv) w):=by
 have hl:ks.length=n:=by have:=hown.1;simpa using this
 obtain ⟨g,k1,e1,_,hgl⟩:=World.ownsRow.form hown oM;injection e1 with e1 _ e3;subst e1 e3;obtain ⟨cs,hg,hcs,hnc,hm,hBg,hcell⟩:=tO hown oM;have hne:gx≠g:=fun e=>hxg g rfl e.symm;have hcs0:∀j v,(ks.map sv)[j]?=some v->w.cell? ⟨g,0+j,none⟩=some v:=fun j v hv=>by
  have hj:j < n:=by have:=(zAc.1 hv).1;simpa [hl] using this
  rw [zBi,hg.cell,hcell j hj,hv]
 have hvs0:∀j v, [sv k][j]?=some v->w.cell? ⟨gx,0+j,none⟩=some v:=fun j v hv=>by
  rw [zBi,hx.cell,<-hv];rcases j with _ | j;rfl
  · simp at hv
 have h1c:∀v∈ks.map sv,v.oneCell'=true:=fun v hv=>by obtain ⟨a,_,rfl⟩:=zAy.1 hv;rfl
 have h1v:∀v∈ [sv k],v.oneCell'=true:=fun v hv=>by rw [List.mem_singleton] at hv;subst hv;rfl
 have hins:∀j,j < n+1->((aU ks i k).map sv)[j]?=if j < i then (ks.map sv)[j]? else if j=i then some (sv k) else (ks.map sv)[j - 1]?:=fun j hj=>by rw [nT,jC _ _ (by rw [zBc];omega)]
 have hil:((aU ks i k).map sv).length=n+1:=by rw [zBc,gD _ _ oM,hl]
 by_cases hroom:n+1<=c
 · have hcell':∀j,j < n+1->w.cell? ⟨g,0+j,none⟩=some (cs.getD j (.bool false)):=fun j hj=>by rw [zBi,hg.cell,zAq oM];congr 1;rw [zAm,zAq oM];rfl
   have hcall:=Any2.slices_Insert_int_shift shIns g 0 n c i gx 0 1 1 (ks.map sv) [sv k] w hi dC hroom (by unfold maxLen at hm;omega) hne (by simpa using hl) rfl hcs0 (fun j hj=>by rw [hcell' j hj];rfl) (fun j hj=>by rw [zBi];exact hg.frozen j) hvs0 h1c h1v 3 3 1 cs.size (hx.shape) (hg.shape) oM (hx.frozen 0) (hx.frozen 1);refine hcall.mono ?_;rintro e w' ⟨rfl,rfl⟩;obtain ⟨cs1,p1,p2,p3⟩:=iZ g ((ks.map sv).drop i) (0+(i+1)) w.drew _ _ hg.drew;obtain ⟨cs2,q1,q2,q3⟩:=iZ g [sv k] (0+i) _ _ _ p1;refine ⟨_,c,rfl,⟨by rw [hil,zBl],.inr ⟨g,c,cs2,rfl,hBg,q1,hroom,hm,by omega,?_⟩⟩,(lE g _ _ w _ (lE g _ _ w _ (Keep.refl _ w).drew)).mono fun b _ e=>by rw [show b=g from e];rfl,.inl rfl⟩;rw [zBl];refine gR hil oM fun j hj=>?_;rw [hins j hj,q3 j oM,p3 j oM];simp only [zCg,List.length_nil,zAw,zBc,hl];by_cases c1:j < i
   · rw [zBw oM,zBw oM,zBx c1,hcell j oM]
   · by_cases c2:j=i
     · subst c2;rw [zBx oM,zBw oM,zBx rfl];simp
     rw [zBw oM,zBx oM,zBw c1,zBw c2,zBt];congr 1;omega
 · have hcall:=Any2.slices_Insert_int_grow shIns g 0 n c i gx 0 1 1 (ks.map sv) [sv k] w hi dC hnc oM oM (by simpa using hl) rfl hcs0 hvs0 h1c h1v;refine hcall.mono ?_;rintro e w' ⟨rfl,rfl⟩;obtain ⟨N,hN⟩:=eqx (grownCap w (n+1) c 3);have hN1:n+1<=N:=(by rw [<-hN];exact grownCap_ge _ _ _ _);have hN2:N<=maxLen:=(by rw [<-hN];exact grownCap_le_maxLen _ _ _ _ (by unfold maxLen;omega));show sW _ _ _ _ _ (.returned (.slice _ _ (grownCap w (n+1) c 3))) _;rw [hN];have hz:∀q,(Builtin.zeroCells (Value.int .i64 0).cells q).size=q:=fun q=>by simp [Builtin.zeroCells,Value.cells]
   obtain ⟨C0,hC0⟩:=eqx (((ks.map sv).take i).toArray++Builtin.zeroCells (Value.int .i64 0).cells (n+1 - i)++Builtin.zeroCells (Value.int .i64 0).cells (N -(n+1)));have hC0s:C0.size=N:=(by rw [<-hC0,Array.size_append,Array.size_append,hz,hz];simp [hl];omega);have hC0g:∀j,j < i->C0[j]?=(ks.map sv)[j]?:=fun j hj=>by have hs:(((ks.map sv).take i).toArray).size=i:=(by simp [hl];omega);rw [<-hC0,Array.append_assoc,Array.getElem?_append_left oM,zCw,List.getElem?_take_of_lt hj]
   have hb0:Bk (w.alloc (.cells C0 3)) w.heap.size 3 C0:=Bk.new _ _ _;have hcs:=hC0;show sW _ _ _ _ _ _ ((((w.alloc (.cells (((ks.map sv).take i).toArray++Builtin.zeroCells (Value.int .i64 0).cells (n+1 - i)++Builtin.zeroCells (Value.int .i64 0).cells (grownCap w (n+1) c 3 -(n+1))) 3)).drew.setCells w.heap.size i [sv k]).drew).setCells w.heap.size (i+1) ((ks.map sv).drop i));rw [hN,hC0];obtain ⟨cs1,p1,p2,p3⟩:=iZ w.heap.size [sv k] i _ _ _ hb0.drew;obtain ⟨cs2,q1,q2,q3⟩:=iZ w.heap.size ((ks.map sv).drop i) (i+1) _ _ _ p1.drew;refine ⟨_,N,rfl,⟨by rw [hil,zBl],.inr ⟨w.heap.size,N,cs2,rfl,hB,q1,hN1,hN2,by omega,?_⟩⟩,gW _ _ _ w _ nL (gW _ _ _ w _ nL ((Keep.refl _ w).alloc _).drew).drew,.inr ⟨_,rfl,zAs _⟩⟩;rw [zBl];refine gR hil oM fun j hj=>?_;rw [hins j hj,q3 j oM,p3 j oM];simp only [zCg,List.length_nil,zAw,zBc,hl];by_cases c1:j < i
   · rw [zBw oM,zBw oM,zBx c1,hC0g j c1]
   · by_cases c2:j=i
     · subst c2;rw [zBw oM,zBx oM,zBw c1,zBx rfl];simp
     rw [zBx oM,zBw c1,zBw c2,zBt];congr 1;omega
theorem aAl (B:Nat) (A:Option Addr) (n c i:Nat) (ks:List Nat) (gx k:Nat) (w:World) (hown:w.ownsRow B 3 1 (.slice A n c) n (ks.map sv)) (hx:Bk w gx 3 #[sv k]) (hxg:∀b,(Value.slice A n c).ownBlock=some b->b≠gx) (hB:B<=w.heap.size) (hi:i<=n) (hn:n<=1000000):
 Calls Tryz.prog 151 #[.slice A n c,(i:Int),.slice (some ⟨gx,0,none⟩) 1 1] w (sW B (.slice A n c) n ((aU ks i k).map sv) w):=by
 by_cases h:i < n;exact aAk B A n c i ks gx k w hown hx hxg hB h hn
 · obtain rfl:i=n:=oM;have hl:ks.length=i:=(by have:=hown.1;simpa using this);have hr:Rd w w.heap.size 1 (some ⟨gx,0,none⟩) 1 [sv k]:=by
    refine ⟨rfl,fun _=>⟨gx,0,rfl,hx.lt,fun j u hu=>?_⟩⟩;rcases j with _ | j;injection hu with hu;subst hu;exact (hx.cell 0).trans rfl
    · simp at hu
   refine (pR B A i c (ks.map sv) (some ⟨gx,0,none⟩) 1 k w hown hr hB hn).mono ?_;rintro e w' ⟨v,rfl,ho,hg,hv⟩;have e1:(aU ks i k).map sv=ks.map sv++ [sv k]:=(by unfold aU;rw [zAg oM,List.drop_of_length_le oM,zAz];rfl);obtain ⟨A',c',rfl,_⟩:=aV ho;refine ⟨A',c',rfl,by rw [e1];exact ho,⟨hg.os,hg.tape,hg.output,hg.size,fun b hb hne=>hg.block b hb fun e=>hne e.symm⟩,?_⟩;rcases hv with hv | hv;exact .inl hv;exact .inr ⟨_,hv,zAs _⟩
end
section
open Go.RowKit Go.Shelf
open Go.Sort (Holds PermIn SortedIn SWO heap_grow_old)
theorem aHQ {w:World} {m base g cap n k:Nat} {os:Array Obj} {cur:Array Value} (d':Array (Fin (m+1))) (hd:d'.size=n) (hb:Bk w g 3 cur) (hg:base<=g) (h1:n<=cap) (h2:cap<=maxLen) (h3:cur.size=cap):
 (sortWorld (fF m) w g 0 k d' os).ownsRow base 3 1 (.slice (some ⟨g,0,none⟩) n cap) n ((d'.toList.map fun x=>x.val).map sv):=by
 have hgl:=hb.lt;have hh:(sortWorld (fF m) w g 0 k d' os).heap[g]?=some (.cells (Go.Sort.putCells (fF m) 0 d' cur) 3 (0,0)):=by unfold sortWorld;rw [heap_grow_old _ _ (by show g < (w.heap.modify g _).size;simpa using hgl)];have hb':w.heap[g]?=some (.cells cur 3 (0,0)):=hb;simp [Go.Sort.putRow,Go.Sort.mapBlock,Go.Sort.ahead,Array.getElem?_modify,hb',Go.Sort.onCells]
 refine ⟨by simp [hd],.inr ⟨g,cap,_,rfl,hg,hh,h1,h2,by simp [Go.Sort.putCells,h3],?_⟩⟩;rw [zBl];refine gR (by simp [hd]) (by simp [Go.Sort.putCells];omega) fun j hj=>?_;have hjc:j < cur.size:=oM;have hjd:j < d'.size:=oM;simp [Go.Sort.putCells,Array.getElem?_mapIdx,hjc,hjd,fF,sv,aCS]
theorem aGl {c:Nat} {ks:List Nat} (h:∀k∈ks,k < c+1):(fT c ks).toList.map (fun x=>x.val)=ks:=by
 unfold fT;rw [zCh]
 conv=>rhs;rw [<-List.map_id ks]
 exact List.map_congr_left fun k hk=>zBu (h k hk)
def cfK (c:Nat) (f:Nat->Nat) (x y:Fin (c+1)):Int:=Lib.compareInt ((f x.val:Nat):Int) ((f y.val:Nat):Int)
theorem aBi (c:Nat) (f:Nat->Nat) (x y:Fin (c+1)):ltOf (cfK c f) x y=decide (f x.val < f y.val):=by
 unfold ltOf cfK;rw [decide_eq_decide,vY];omega
theorem aJt (c:Nat) (f:Nat->Nat):SWO (ltOf (cfK c f)) where
 irrefl x:=by rw [aBi];simp
 trans x y z h1 h2:=by
  rw [aBi,zCa] at*
  omega
 ntrans x y z h1 h2:=by
  rw [aBi,decide_eq_false_iff_not] at*
  omega
theorem aCl {c:Nat} {ks:List Nat} {f:Nat->Nat} {d':Array (Fin (c+1))} (h:∀k∈ks,k < c+1) (hp:PermIn 0 (fT c ks).size (fT c ks) d') (hs:SortedIn (ltOf (cfK c f)) 0 (fT c ks).size d') (hnd:ks.Nodup) (hf:∀x∈ks,∀y∈ks,f x=f y->x=y):
 (d'.toList.map fun x=>x.val).Perm ks/\(d'.toList.map fun x=>x.val).Pairwise (fun a b=>f a < f b):=by
 have hperm:(d'.toList.map fun x=>x.val).Perm ks:=by have:=(xE hp).map (fun x:Fin (c+1)=>x.val);rwa [aGl h] at this
 refine ⟨hperm,?_⟩;have hnd':(d'.toList.map fun x=>x.val).Nodup:=hperm.nodup_iff.2 hnd;rw [zAr];intro i j hi hj hij;have hi':i < d'.size:=by simpa using hi
 have hj':j < d'.size:=by simpa using hj
 have h1:=hs i j (zAp _) hij (by rw [<-hp.1];exact hj');rw [aBi,decide_eq_false_iff_not,aCS _ _ hi',aCS _ _ hj'] at h1;have e1:(d'.toList.map fun x=>x.val)[i]=d'[i].val:=by simp
 have e2:(d'.toList.map fun x=>x.val)[j]=d'[j].val:=by simp
 have hne:(d'.toList.map fun x=>x.val)[i]≠(d'.toList.map fun x=>x.val)[j]:=zAr.1 hnd' i j hi hj hij;have m1:d'[i].val∈ks:=hperm.subset (by rw [<-e1];exact zBj hi);have m2:d'[j].val∈ks:=hperm.subset (by rw [<-e2];exact zBj hj);rw [e1,e2] at hne⊢;have hne2:f d'[i].val≠f d'[j].val:=fun e=>hne (hf _ m1 _ m2 e);omega
end
section
open Go.RowKit Go.Shelf
theorem aAd (gp R P:Nat) (pr:List (Nat×Nat)) (pos:Nat) (w:World) (h:PermR w gp R P pr) (hno:∀x∈pr,x.2≠pos):
 Calls Tryz.prog 100 #[gp,(pos:Int)] w fun e w'=>e=.returned (.int .i64 (-1))/\Below w.heap.size w w':=by
 obtain ⟨B,ga,vl,vo,vt,vf,ks,C,tk,fr,h1,h2,h3,h4,rfl⟩:=h;have hhas:=jJ B gp ga vl vo vt vf R P ks C tk fr pos w h1 oM;rw [kY (p:=fun k=>decide (aH C k=pos)) (l:=ks) (fun k hk=>zBy (hno _ (zAy.2 ⟨k,hk,rfl⟩))) 0] at hhas;clear h1 h2 hno;go_enter Tryz.func100,Tryz.ntmps100;go_wp2_with fail;refine hhas.mono ?_;rintro e w1 ⟨rfl,hb1⟩;have Hb1:=lhd hb1;clear hhas hb1;go_wp2_with fail;go_ret;exact ⟨rfl,Hb1.out⟩
end
section
theorem aEP {l:List Nat} (hn:l.Nodup) {x:Nat} (hx:x∈l) {f g:Nat->Bool} (h:∀y∈l,y≠x->f y=g y):l.countP f+(if g x then 1 else 0)=l.countP g+(if f x then 1 else 0):=by
 have hp:=List.perm_cons_erase hx;have hn2:=hp.nodup_iff.1 hn;have e:(l.erase x).countP f=(l.erase x).countP g:=List.countP_congr fun y hy=>by rw [h y (List.mem_of_mem_erase hy) (fun e=>(List.nodup_cons.1 hn2).1 (e ▸ hy))]
 rw [hp.countP_eq,hp.countP_eq,zBn,zBn,e];omega
theorem aKE {R:List Nat} (hn:R.Nodup) {y:Nat} (hy:y∈R):R.countP (fun p=>decide (ro R p < ro R y))=ro R y:=by
 have h:=aAy hn (ro R y) (fun _=>true);have h2:(R.take (ro R y)).countP (fun _=>true)=(R.take (ro R y)).length:=List.countP_eq_length.2 fun _ _=>rfl;rw [h2,zAj] at h;have hl:ro R y < R.length:=List.idxOf_lt_length_iff.2 hy;rw [zCt oM] at h;simp only [Bool.true_and] at h;exact h.symm
def aI3 (n cur a:Nat):Nat:=let m:=if cur < a then n - 1 else n;if a<=m then m+1 else m
section
variable {S R : List Nat} {N i : Nat}
theorem aIs (h:Near S R N (i+2)) (hi:i+1 < N):(if S.getD (i+1) 0=S.getD i 0 then aI3 (cJ (aE S R) (S.getD i 0) (ro R (i+1))) (ro R (i+2)) (ro R (i+1)) else cJ (aE S R) (S.getD i 0) (ro R (i+1)))=ro R i/\
 (S.getD (i+1) 0=S.getD i 0->ro R (i+2) < ro R (i+1)->0 < cJ (aE S R) (S.getD i 0) (ro R (i+1))):=by
 have hn:=h.nodup;have hm:∀p,p<=N->p∈R:=fun p hp=>h.mem.2 hp;have hne:∀p q,p<=N->q<=N->p≠q->ro R p≠ro R q:=fun p q hp hq hpq e=>hpq (eV (hm p hp) (hm q hq) e);have hd:=h.endk.pos i oM;rw [rJ h.endk h.perm hd];have c1:(List.range (N+1)).countP (fun p=>decide (ro R p < ro R i))=ro R i:=by rw [<-h.perm.countP_eq];exact aKE hn (hm i oM)
 have hcons:∀y∈List.range (N+1),y≠i+1->decide (ro R y < ro R i)=decide (S.getD y 0 < S.getD i 0∨(S.getD y 0=S.getD i 0/\ro R (y+1) < ro R (i+1))):=fun y hy hyi=>by rw [zCj] at hy;rw [decide_eq_decide];by_cases hy2:y=i;subst hy2;omega;exact h.cons y i oM oM hy2 oM oM
 have hb:=aEP List.nodup_range (x:=i+1) (by simp;omega) hcons;rw [c1] at hb;unfold aBn;generalize hn0:List.countP (fun p=>decide (S.getD p 0 < S.getD i 0∨(S.getD p 0=S.getD i 0/\ro R (p+1) < ro R (i+1)))) (List.range (N+1))=n0 at hb⊢;have hia:=hne i (i+1) oM oM oM;have hca:=hne (i+2) (i+1) oM oM oM;have f1:=h.first (i+1) i oM oM;have f2:=h.first i (i+1) oM oM;simp only [zCa,show i+1+1=i+2 by omega] at hb;by_cases he:S.getD (i+1) 0=S.getD i 0
 · have e1:(S.getD (i+1) 0 < S.getD i 0∨(S.getD (i+1) 0=S.getD i 0/\ro R (i+2) < ro R (i+1)))↔ro R (i+2) < ro R (i+1):=oM;simp only [e1] at hb;rw [zBx he];unfold aI3;refine ⟨?_,fun _ hlt=>?_⟩
   · by_cases q1:ro R (i+2) < ro R (i+1)
     · rw [zBx q1] at hb;simp only [zBx q1];split at hb <;> split <;> omega
     · rw [zBw q1] at hb;simp only [zBw q1];split at hb <;> split <;> omega
   · rw [zBx hlt] at hb;split at hb <;> omega
 have e1:(S.getD (i+1) 0 < S.getD i 0∨(S.getD (i+1) 0=S.getD i 0/\ro R (i+2) < ro R (i+1)))↔ro R (i+1) < ro R i:=oM;simp only [e1] at hb;rw [zBw he];exact ⟨by omega,fun e=>absurd e he⟩
def sh (k p:Nat):Nat:=if p < k then p else p+1
theorem aD6 {k p q:Nat} (h:sh k p=sh k q):p=q:=by unfold sh at h;split at h <;> split at h <;> omega
theorem aAB (k p:Nat):sh k p≠k:=by unfold sh;split <;> omega
theorem mG {k q:Nat} (h:q≠k):∃p,sh k p=q:=by
 by_cases c:q < k;exact ⟨q,by unfold sh;rw [zBx c]⟩;exact ⟨q - 1,by unfold sh;rw [zBw oM];omega⟩
theorem mO (l:List Nat) {k:Nat} (x:Nat) (h:k<=l.length) (j:Nat):(aU l k x).getD j 0=if j < k then l.getD j 0 else if j=k then x else l.getD (j - 1) 0:=by
 rw [zAb,jC l x h];split
 · rw [zAb]
 · split;rfl
   · rw [zAb]
theorem aJ5 (l:List Nat) {k:Nat} (h:k < l.length) (j:Nat):(aF l k).getD j 0=if j < k then l.getD j 0 else l.getD (j+1) 0:=by
 rw [zAb,dX l h];split
 · rw [zAb]
 · rw [zAb]
theorem mN (l:List Nat) {k:Nat} (x p:Nat) (h:k<=l.length):(aU l k x).getD (sh k p) 0=l.getD p 0:=by
 rw [mO l x h];by_cases c:p < k
 · rw [show sh k p=p by unfold sh;rw [zBx c],zBx c]
 · rw [show sh k p=p+1 by unfold sh;rw [zBw c],zBw oM,zBw oM,zBb]
theorem xP (l:List Nat) {k:Nat} (x:Nat) (h:k<=l.length):(aU l k x).getD k 0=x:=by
 rw [mO l x h,zBw oM,zBx rfl]
theorem aH3 {R:List Nat} (hn:R.Nodup) {at_ row:Nat} (hr:row<=R.length):ro (aU (R.map (sh at_)) row at_) at_=row/\(∀p∈R,ro (aU (R.map (sh at_)) row at_) (sh at_ p)=inR (ro R p) row)/\(aU (R.map (sh at_)) row at_).Nodup:=by
 have hl:row<=(R.map (sh at_)).length:=by simpa using hr
 have hnd:(aU (R.map (sh at_)) row at_).Nodup:=by rw [(fI _ _ _).nodup_iff,List.nodup_cons];refine ⟨fun hm=>?_,List.pairwise_map.2 (hn.imp fun h1 h2=>h1 (aD6 h2))⟩;obtain ⟨p,_,e⟩:=zAy.1 hm;exact aAB _ _ e
 refine ⟨fW hnd ?_,fun p hp=>fW hnd ?_,hnd⟩
 · rw [jC _ _ hl,zBw oM,zBx rfl]
 rw [jC _ _ hl];have hg:=cC hp;unfold inR;by_cases c:row<=ro R p;rw [zBx c,zBw oM,zBw oM,zBb,zAf,hg];rfl;rw [zBw c,zBx oM,zAf,hg];rfl
theorem aJX (h:EndOk S N) {at_ s:Nat} (ha:at_<=N) (hs:0 < s):EndOk (aU S at_ s) (N+1):=by
 obtain ⟨e1,e2,e3⟩:=h;refine ⟨by rw [gD _ _ oM,e1],?_,fun p hp=>?_⟩
 · rw [mO _ _ oM,zBw oM,zBw oM,zBb,e2]
 rw [mO _ _ oM];split;exact e3 p oM;split;exact hs;exact e3 _ oM
theorem aIi {R:List Nat} (hp:R.Perm (List.range (N+1))) {at_:Nat} (row:Nat) (ha:at_<=N):(aU (R.map (sh at_)) row at_).Perm (List.range (N+1+1)):=by
 refine (List.perm_ext_iff_of_nodup ?_ List.nodup_range).2 fun q=>?_;rw [(fI _ _ _).nodup_iff,List.nodup_cons];refine ⟨fun hm=>?_,List.pairwise_map.2 ((hp.nodup_iff.2 List.nodup_range).imp fun h1 h2=>h1 (aD6 h2))⟩;obtain ⟨p,_,e⟩:=zAy.1 hm;exact aAB _ _ e
 · rw [(fI _ _ _).mem_iff,List.mem_cons,zAy,zCj];constructor
   · rintro (rfl |⟨p,hpm,rfl⟩);omega
     · have:=zCj.1 (hp.mem_iff.1 hpm);unfold sh;split <;> omega
   · intro hq;by_cases c:q=at_;exact .inl c
     · obtain ⟨p,rfl⟩:=mG c;refine .inr ⟨p,hp.mem_iff.2 (zCj.2 ?_),rfl⟩;unfold sh at hq c;split at hq <;> omega
theorem aIt (h0:IsSuf S R) (he:EndOk S N) {at_ s:Nat} (ha:at_<=N) (hs:0 < s):cJ (aE S R) s (ro R at_)<=R.length/\Near (aU S at_ s) (aU (R.map (sh at_)) (cJ (aE S R) s (ro R at_)) at_) (N+1) at_:=by
 have h:=h0.near he;have hn:=h.nodup;have hm:∀p,p<=N->p∈R:=fun p hp=>h.mem.2 hp;obtain ⟨row,hrow⟩:=eqx (cJ (aE S R) s (ro R at_));have hcnt:R.countP (fun p=>decide (S.getD p 0 < s∨(S.getD p 0=s/\ro R (p+1) < ro R at_)))=row:=by rw [<-hrow,rJ he h.perm hs,h.perm.countP_eq];rfl
 rw [hrow];have hle:row<=R.length:=by rw [<-hcnt];exact zBh
 have hpre:∀p,p<=N->(decide (S.getD p 0 < s∨(S.getD p 0=s/\ro R (p+1) < ro R at_))=true↔ro R p < row):=fun p hp=>by rw [<-hcnt];refine aBf (K:=fun p=>decide (S.getD p 0 < s∨(S.getD p 0=s/\ro R (p+1) < ro R at_))) ?_ _ _ (cC (hm p hp));rw [zAr];intro a b ha' hb hab hk;have ra:ro R R[a]=a:=fW hn (zAa ha');have rb:ro R R[b]=b:=fW hn (zAa hb);have hpa:R[a]<=N:=h.mem.1 (zBj ha');have hpb:R[b]<=N:=h.mem.1 (zBj hb);have hc:=(h.cons R[a] R[b] hpa hpb (fun e=>by rw [e,rb] at ra;omega) oM oM).1 oM;unfold tQ at hc;rw [zCa] at hk⊢;omega
 obtain ⟨r1,r2,r3⟩:=aH3 hn (at_:=at_) hle;have hS:=he.len;refine ⟨hle,aJX he ha hs,aIi h.perm row ha,fun p q hp hq hlt=>?_,fun p q hp hq hpq hpi hqi=>?_⟩
 · by_cases cp:p=at_
   · subst cp;by_cases cq:q=p;subst cq;omega
     · obtain ⟨q0,rfl⟩:=mG cq;have hq0:q0<=N:=(by unfold sh at hq;split at hq <;> omega);rw [r1,r2 q0 (hm q0 hq0)] at hlt;rw [xP _ _ oM,mN _ _ _ oM];have hk:=hpre q0 hq0;rw [zCa] at hk;unfold inR at hlt;split at hlt <;> omega
   · obtain ⟨p0,rfl⟩:=mG cp;have hp0:p0<=N:=(by unfold sh at hp;split at hp <;> omega);by_cases cq:q=at_
     · subst cq;rw [r1,r2 p0 (hm p0 hp0)] at hlt;rw [xP _ _ oM,mN _ _ _ oM];have hk:=hpre p0 hp0;rw [zCa] at hk;unfold inR at hlt;split at hlt <;> omega
     · obtain ⟨q0,rfl⟩:=mG cq;have hq0:q0<=N:=(by unfold sh at hq;split at hq <;> omega);rw [r2 p0 (hm p0 hp0),r2 q0 (hm q0 hq0)] at hlt;rw [mN _ _ _ oM,mN _ _ _ oM];refine h.first p0 q0 hp0 hq0 ?_;unfold inR at hlt;split at hlt <;> split at hlt <;> omega
 · have hsu:∀p0,p0<=N->sh at_ p0+1≠at_->p0 < N->sh at_ p0+1=sh at_ (p0+1):=fun p0 hp0 hc _=>by unfold sh at hc⊢;by_cases c1:p0 < at_ <;> by_cases c2:p0+1 < at_ <;> simp only [c1,c2,if_true,if_false] at hc⊢<;> omega
   have hat1:at_+1=sh at_ at_:=(by unfold sh;rw [zBw oM]);have ordS:∀p0 q0,p0<=N->q0<=N->(ro (aU (R.map (sh at_)) row at_) (sh at_ p0) < ro (aU (R.map (sh at_)) row at_) (sh at_ q0)↔ro R p0 < ro R q0):=fun p0 q0 hp0 hq0=>by rw [r2 p0 (hm p0 hp0),r2 q0 (hm q0 hq0)];unfold inR;split <;> split <;> omega
   have eN:∀x,x<=N->S.getD x 0≠0->x < N:=fun x hx hne=>Nat.lt_of_le_of_ne hx fun e=>by subst e;exact hne he.last
   unfold tQ;by_cases cp:p=at_
   · subst cp;obtain ⟨q0,rfl⟩:=mG (fun e=>hpq e.symm);have hq0:q0<=N:=(by unfold sh at hq;split at hq <;> omega);rw [r1,r2 q0 (hm q0 hq0),xP _ _ oM,mN _ _ _ oM];have hk:=hpre q0 hq0;rw [zCa] at hk;have hlt:row < inR (ro R q0) row↔¬ro R q0 < row:=(by unfold inR;split <;> omega);rw [hlt,<-hk];by_cases ce:S.getD q0 0=s
     · have hqN:=eN q0 hq0 oM;rw [hsu q0 hq0 hqi hqN,hat1,ordS p (q0+1) ha oM];have:=fun e=>eV (hm (q0+1) oM) (hm p ha) e;have hne:ro R (q0+1)≠ro R p:=fun e=>by have:=this e;unfold sh at hqi;split at hqi <;> omega
       omega
     omega
   · obtain ⟨p0,rfl⟩:=mG cp;have hp0:p0<=N:=(by unfold sh at hp;split at hp <;> omega);by_cases cq:q=at_
     · subst cq;rw [r1,r2 p0 (hm p0 hp0),xP _ _ oM,mN _ _ _ oM];have hk:=hpre p0 hp0;rw [zCa] at hk;have hlt:inR (ro R p0) row < row↔ro R p0 < row:=(by unfold inR;split <;> omega);rw [hlt,<-hk];by_cases ce:S.getD p0 0=s
       · have hpN:=eN p0 hp0 oM;rw [hsu p0 hp0 hpi hpN,hat1,ordS (p0+1) q oM ha]
       omega
     · obtain ⟨q0,rfl⟩:=mG cq;have hq0:q0<=N:=(by unfold sh at hq;split at hq <;> omega);have hpq0:p0≠q0:=fun e=>hpq (by rw [e]);rw [ordS p0 q0 hp0 hq0,mN _ _ _ oM,mN _ _ _ oM,h.cons p0 q0 hp0 hq0 hpq0 oM oM];unfold tQ;by_cases ce:S.getD p0 0=S.getD q0 0
       · by_cases cz:S.getD p0 0=0;have x1:p0=N:=Nat.le_antisymm hp0 (zCr.1 fun hl=>by have:=he.pos p0 hl;omega);have x2:q0=N:=Nat.le_antisymm hq0 (zCr.1 fun hl=>by have:=he.pos q0 hl;omega);omega
         · have hpN:=eN p0 hp0 cz;have hqN:=eN q0 hq0 oM;rw [hsu p0 hp0 hpi hpN,hsu q0 hq0 hqi hqN,ordS (p0+1) (q0+1) oM oM]
       omega
theorem aGu (hn:R.Nodup) (hp:R.Perm (List.range (N+1))) (he:EndOk S N) {at_ s row:Nat} (ha:at_<=N) (hr:row<=R.length):aE (aU S at_ s) (aU (R.map (sh at_)) row at_)=aU ((aE S R).set (ro R at_) s) row (bL S at_):=by
 have hS:=he.len;have hS':(aU S at_ s).length=N+1+1:=by rw [gD _ _ oM,hS]
 have hmem:∀p,p∈R->p<=N:=fun p hpm=>by have:=zCj.1 (hp.mem_iff.1 hpm);omega
 have hat:at_∈R:=hp.mem_iff.2 (zCj.2 oM);unfold aE;rw [nT];congr 1
 · apply List.ext_getElem?;intro j;rw [zAf,zAf,zBm,zAf];cases hg:R[j]? with
   | none=>
     simp;intro e;subst e;rw [cC hat] at hg;cases hg
   | some p=>
     have hpN:=hmem p (zAd hg);have hj:ro R p=j:=fW hn hg;show some (bL (aU S at_ s) (sh at_ p))=_;by_cases c:p=at_
     · subst c;rw [zBx hj,zBx (by simpa using (zAc.1 (hj ▸ hg)).1)];congr 1;rw [show sh p p=p+1 by unfold sh;rw [zBw oM],bE oM,xP _ _ oM]
     · rw [zBw (fun e=>c (by have h1:=cC hat;rw [e,hg] at h1;injection h1))];show some _=some (bL S p);congr 1;rcases p with _ | p
       · rw [show sh at_ 0=0 by unfold sh;rw [zBx oM],bQ oM,bQ oM,hS',hS,zBb,zBb,mO _ _ oM,zBw oM,zBw oM,zBb]
       · have e1:sh at_ (p+1)=sh at_ p+1:=(by unfold sh;split <;> split <;> omega);have hlt:sh at_ p+1 < N+1+1:=(by unfold sh;split <;> omega);rw [e1,bE oM,bE oM,mN _ _ _ oM]
 · rcases at_ with _ | a
   · rw [bQ oM,bQ oM,hS',hS,zBb,zBb,mO _ _ oM,zBw oM,zBw oM,zBb]
   · rw [bE oM,bE oM,mO _ _ oM,zBx oM]
theorem aEz {a t x:Nat} (ha:R[a]?=some x):aE S (aU (aF R a) t x)=aU (aF (aE S R) a) t (bL S x):=by
 unfold aE;rw [nT,rX]
end
end
section
open Go.RowKit Go.Shelf
theorem aAq (B:Nat) (A:Option Addr) (n c i:Nat) (ks:List Nat) (w:World) (hown:w.ownsRow B 3 1 (.slice A n c) n (ks.map sv)) (hi:i < n) (hn:n<=1000000):
 Calls Tryz.prog 206 #[.slice A n c,(i:Int),.int .i64 ((i+1:Nat):Int)] w fun e w'=>e=.returned (.slice A (n - 1) c)/\w'.ownsRow B 3 1 (.slice A (n - 1) c) (n - 1) ((aF ks i).map sv)/\Keep (fun b=>(Value.slice A n c).ownBlock=some b) w w':=by
 have hl:ks.length=n:=by have:=hown.1;simpa using this
 obtain ⟨g,k1,e1,_,hgl⟩:=World.ownsRow.form hown oM;injection e1 with e1 _ e3;subst e1 e3;obtain ⟨cs,hg,hcs,hnc,hm,hBg,hcell⟩:=tO hown oM;obtain ⟨zs,hzs⟩:∃zs:List Int,ks.map (fun k=>((k:Nat):Int))=zs:=⟨_,rfl⟩;have hzl:zs.length=n:=by rw [<-hzs,zBc,hl]
 have hzv:ks.map sv=zs.map (Value.int .i64):=by rw [<-hzs,zCh];rfl
 have hH:Sort.Holds (Value.int .i64) w g 0 zs.toArray:=holds_of_blockI hg (by
  refine gR (by simp) oM fun j hj=>?_;rw [hcell j oM,hzv])
 have hcall:=Any.slices_Delete_int shDel g 0 c i (i+1) zs w hH oM (by unfold maxLen at hm;omega) oM oM;rw [hzl] at hcall;have hdl:(aF ks i).length+1=n:=by rw [cZ _ oM,hl]
 have hd1:(aF zs i).length+1=n:=by rw [cZ _ oM,hzl]
 obtain ⟨ys,hys⟩:=eqx (zs.take i++zs.drop (i+1)++List.replicate (i+1 - i) 0);have hyl:ys.length=n:=by rw [<-hys];simp [hzl];omega
 have hyg:∀j,j < n - 1->ys[j]?=(aF zs i)[j]?:=fun j hj=>by rw [<-hys];show ((aF zs i)++List.replicate (i+1 - i) 0)[j]?=_;rw [zAn oM]
 rw [hys] at hcall;clear hys;refine hcall.mono ?_;rintro e w' ⟨rfl,q,rfl⟩;have hgr:=grownBy_sortedI (w:=w) (g:=g) (n:=q) (os:=#[]) ys.toArray;have hhp:=heap_sortedI (w:=w) (g:=g) (n:=q) (os:=#[]) ys.toArray hg;rw [Go.Sort.grow_empty] at hgr hhp;refine ⟨by rw [show i+1 - i=1 by omega],⟨by rw [zBc,zBl];omega,.inr ⟨g,c,_,rfl,hBg,hhp,by omega,hm,by simp [Go.Sort.putCells];omega,?_⟩⟩,⟨hgr.os,hgr.tape,hgr.output,hgr.size,fun b hb hne=>hgr.block b hb fun e=>hne e.symm⟩⟩;rw [zBl];refine gR (by rw [zBc];omega) (by simp [Go.Sort.putCells];omega) fun j hj=>?_;have hjd:j < (aF ks i).length:=oM;have hyn:(aF zs i)[j]?=some (((aF ks i)[j]:Nat):Int):=by rw [<-hzs,<-rX,zAf,zAa hjd];rfl
 rw [zAf,zAa hjd];have h8:=hyg j hj;rw [hyn] at h8;have hjs:j < cs.size:=oM;have hjy:j < ys.length:=oM;rw [zAa hjy] at h8;injection h8 with h8;simp [Go.Sort.putCells,Array.getElem?_mapIdx,hjs,hjy,h8,sv]
end
end Go.Proofs.YthldmddkfbijhaaGreatDoor
