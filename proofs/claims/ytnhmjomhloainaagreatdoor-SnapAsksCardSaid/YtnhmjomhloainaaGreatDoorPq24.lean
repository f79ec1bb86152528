/- Parts of the walk, joined from several texts. Conditions: what each lemma says. -/
import Derived.Test.YtnhmjomhloainaaGreatDoorPq23
import Derived.BigQuiet
set_option linter.all false
set_option maxRecDepth 100000
set_option maxHeartbeats 4000000
namespace Go.Proofs.YtnhmjomhloainaaGreatDoor
def inR (r c:Nat):Nat:=if c<=r then r+1 else r
def bM (r g:Nat):Nat:=if g < r then r - 1 else r
abbrev ro (R:List Nat) (p:Nat):Nat:=R.idxOf p
theorem cV {R:List Nat} {p:Nat} (h:p∈R):R[ro R p]?=some p:=zAc.2 ⟨List.idxOf_lt_length_iff.2 h,List.getElem_idxOf _⟩
theorem fJ {R:List Nat} (hn:R.Nodup) {r p:Nat} (h:R[r]?=some p):ro R p=r:=by
 obtain ⟨hr,e⟩:=zAc.1 h;subst e;exact hn.idxOf_getElem r hr
theorem gO {R:List Nat} {p q:Nat} (hp:p∈R) (hq:q∈R) (h:ro R p=ro R q):p=q:=by
 have h1:=cV hp;rw [h,cV hq] at h1;injection h1 with h1;exact h1.symm
theorem aHk {R:List Nat} (hn:R.Nodup) {a t x:Nat} (ha:R[a]?=some x) (ht:t < R.length):
 (aQ (aI R a) t x).Perm R/\ro (aQ (aI R a) t x) x=t/\∀p∈R,p≠x->ro (aQ (aI R a) t x) p=inR (bM (ro R p) a) t:=by
 have hal:=(zAc.1 ha).1;have hdl:=dA R hal;have hperm:(aQ (aI R a) t x).Perm R:=(fG _ _ _).trans (iX ha);have hn':(aQ (aI R a) t x).Nodup:=hperm.nodup_iff.2 hn;refine ⟨hperm,?_,fun p hp hpx=>?_⟩
 · refine fJ hn' ?_;rw [iB _ _ oM,zBw oM,zBx rfl]
 · have h1:=cV hp;have hne:ro R p≠a:=fun e=>by rw [e,ha] at h1;injection h1 with h1;exact hpx h1.symm
   refine fJ hn' ?_;have hlt:=(zAc.1 h1).1;rw [iB _ _ oM];unfold inR bM;by_cases c1:a < ro R p;rw [zBx c1];by_cases c2:t<=ro R p - 1;rw [zBx c2,zBw oM,zBw oM,eE _ hal,zBw oM];rw [<-h1];congr 1;omega;rw [zBw c2,zBx oM,eE _ hal,zBw oM,<-h1];congr 1;omega
   · rw [zBw c1];by_cases c2:t<=ro R p
     · rw [zBx c2,zBw oM,zBw oM,eE _ hal,zBx oM,<-h1];congr 1
     · rw [zBw c2,zBx oM,eE _ hal,zBx oM,<-h1]
def xI (S R:List Nat) (p q:Nat):Prop:=S.getD p 0 < S.getD q 0∨(S.getD p 0=S.getD q 0/\ro R (p+1) < ro R (q+1))
structure Near (S R:List Nat) (N i:Nat):Prop where
 endk:EndOk S N
 perm:R.Perm (List.range (N+1))
 first:∀p q,p<=N->q<=N->ro R p < ro R q->S.getD p 0<=S.getD q 0
 cons:∀p q,p<=N->q<=N->p≠q->p+1≠i->q+1≠i->(ro R p < ro R q↔xI S R p q)
section
variable {S R : List Nat} {N i : Nat}
theorem Near.nodup (h:Near S R N i):R.Nodup:=h.perm.nodup_iff.2 List.nodup_range
theorem Near.mem (h:Near S R N i) {p:Nat}:p∈R↔p<=N:=by
 rw [h.perm.mem_iff,zCi];omega
theorem Near.len (h:Near S R N i):R.length=N+1:=by simpa using h.perm.length_eq
theorem aBt {S:List Nat} {p q:Nat} (hp:p < S.length) (hq:q < S.length) (he:S.getD p 0=S.getD q 0) (h:sufLt S (p+1) (q+1)):sufLt S p q:=by
 obtain ⟨w,k,h1,h2,h3⟩:=h;refine ⟨w+1,k+1,by omega,fun m hm=>?_,?_⟩
 · cases m with
   | zero=>
     rw [zBq,zBq,eM hp,eM hq,he]
   | succ m=>
     have:=h2 m oM;rw [show p+(m+1)=p+1+m by omega,show q+(m+1)=q+1+m by omega];exact this
 rw [show p+(k+1)=p+1+k by omega,show q+(k+1)=q+1+k by omega];exact h3
theorem aDU {S:List Nat} {p q:Nat} (hp:p < S.length) (hq:q < S.length) (he:S.getD p 0 < S.getD q 0):sufLt S p q:=by
 refine ⟨1,0,by omega,fun m hm=>by omega,?_⟩;rw [zBq,zBq,eM hp,eM hq];omega
theorem Near.sorted (h:Near S R N 0):IsSuf S R:=by
 obtain ⟨e1,e2,e3⟩:=h.endk;have key:∀d p q,N < p+d->p<=N->q<=N->p≠q->ro R p < ro R q->sufLt S p q:=by
  intro d
  induction d with
  | zero=>intro p q hd hp;omega
  | succ d ih=>
    intro p q hd hp hq hpq hlt;rcases (h.cons p q hp hq hpq oM oM).1 hlt with h1 |⟨h1,h2⟩;exact aDU oM oM h1
    · have hpN:p≠N:=fun e=>by subst e;have:=e3 q oM;omega
      have hqN:q≠N:=fun e=>by subst e;have:=e3 p oM;omega
      exact aBt oM oM h1 (ih (p+1) (q+1) oM oM oM oM h2)
 refine ⟨by rw [e1];exact h.perm,?_⟩;rw [zAr];intro a b ha hb hab;have hn:=h.nodup;have hpa:R[a]<=N:=h.mem.1 (zBj ha);have hpb:R[b]<=N:=h.mem.1 (zBj hb);have ra:ro R R[a]=a:=fJ hn (zAa ha);have rb:ro R R[b]=b:=fJ hn (zAa hb);exact key (N+1) _ _ oM hpa hpb (fun e=>by rw [e,rb] at ra;omega) (by rw [ra,rb];exact hab)
theorem IsSuf.near (h:IsSuf S R) (he:EndOk S N):Near S R N 0:=by
 obtain ⟨e1,e2,e3⟩:=he;have hperm:R.Perm (List.range (N+1)):=by rw [<-e1];exact h.perm
 have hn:=h.nodup;have hm:∀p,p<=N->p∈R:=fun p hp=>h.mem oM;have hs:∀p q,p<=N->q<=N->ro R p < ro R q->sufLt S p q:=fun p q hp hq hlt=>by have hpl:=(zAc.1 (cV (hm p hp)));have hql:=(zAc.1 (cV (hm q hq)));obtain ⟨h1,h2⟩:=hpl;obtain ⟨h3,h4⟩:=hql;have:=zAr.1 h.sorted _ _ h1 h3 hlt;rwa [h2,h4] at this
 have hs2:∀p q,p<=N->q<=N->sufLt S p q->ro R p < ro R q:=fun p q hp hq hlt=>by rcases Nat.lt_trichotomy (ro R p) (ro R q) with h1 | h1 | h1;exact h1;have:=gO (hm p hp) (hm q hq) h1;subst this;exact (hlt.asymm hlt).elim;exact (hlt.asymm (hs q p hq hp h1)).elim
 have hk:∀p q,p<=N->q<=N->sufLt S p q->S.getD p 0<=S.getD q 0:=fun p q hp hq ⟨w,k,h1,h2,h3⟩=>by
  cases k with
  | zero=>
    rw [zBq,zBq,eM oM,eM oM] at h3;omega
  | succ k=>
    have:=h2 0 oM;rw [zBq,zBq,eM oM,eM oM] at this;omega
 have hk2:∀p q,p<=N->q<=N->p≠q->S.getD p 0=S.getD q 0->(sufLt S p q↔sufLt S (p+1) (q+1)):=fun p q hp hq hpq heq=>by
  constructor
  · rintro ⟨w,k,h1,h2,h3⟩;cases k with
    | zero=>
      rw [zBq,zBq,eM oM,eM oM] at h3;omega
    | succ k=>
      refine ⟨k+1,k,by omega,fun m hm=>?_,?_⟩;have:=h2 (m+1) oM;rw [show p+1+m=p+(m+1) by omega,show q+1+m=q+(m+1) by omega];exact this;rw [show p+1+k=p+(k+1) by omega,show q+1+k=q+(k+1) by omega];exact h3
  exact aBt oM oM heq
 refine ⟨⟨e1,e2,e3⟩,hperm,fun p q hp hq hlt=>hk p q hp hq (hs p q hp hq hlt),fun p q hp hq hpq _ _=>?_⟩;unfold xI;constructor
 · intro hlt;have h1:=hs p q hp hq hlt;rcases Nat.lt_or_eq_of_le (hk p q hp hq h1) with h2 | h2;exact .inl h2
   · refine .inr ⟨h2,?_⟩;have hpN:p≠N:=fun e=>by subst e;have:=e3 q oM;omega
     have hqN:q≠N:=fun e=>by subst e;have:=e3 p oM;omega
     exact hs2 _ _ oM oM ((hk2 p q hp hq hpq h2).1 h1)
 · rintro (h1 |⟨h1,h2⟩);exact hs2 p q hp hq (aDU oM oM h1)
   · have hpN:p≠N:=fun e=>by subst e;have:=e3 q oM;omega
     have hqN:q≠N:=fun e=>by subst e;have:=e3 p oM;omega
     exact hs2 p q hp hq ((hk2 p q hp hq hpq h1).2 (hs _ _ oM oM h2))
def aBv (S R:List Nat) (N c r:Nat):Nat:=(List.range (N+1)).countP fun p=>decide (S.getD p 0 < c∨(S.getD p 0=c/\ro R (p+1) < r))
theorem yN {R:List Nat} (hn:R.Nodup) (r:Nat) (f:Nat->Bool):(R.take r).countP f=R.countP fun p=>f p&&decide (ro R p < r):=by
 have h1:R.countP (fun p=>f p&&decide (ro R p < r))=(R.take r).countP (fun p=>f p&&decide (ro R p < r))+(R.drop r).countP (fun p=>f p&&decide (ro R p < r)):=by rw [<-List.countP_append,zAu]
 have h2:(R.drop r).countP (fun p=>f p&&decide (ro R p < r))=0:=by rw [List.countP_eq_zero];intro p hp;obtain ⟨j,hj,e⟩:=zBo.1 hp;rw [List.getElem_drop] at e;have:ro R p=r+j:=fJ hn (by rw [<-e];exact zAa _);simp;omega
 have h3:(R.take r).countP (fun p=>f p&&decide (ro R p < r))=(R.take r).countP f:=by refine List.countP_congr fun p hp=>?_;obtain ⟨j,hj,e⟩:=zBo.1 hp;rw [zAj] at hj;rw [List.getElem_take] at e;have:ro R p=j:=fJ hn (by rw [<-e];exact zAa _);have hjr:ro R p < r:=oM;simp [hjr]
 rw [h1,h2,h3];rfl
theorem aAj {l:List Nat} {f g:Nat->Bool} (h:∀x∈l,¬(f x=true/\g x=true)):l.countP f+l.countP g=l.countP fun x=>f x||g x:=by
 induction l with
 | nil=>rfl
 | cons x l ih=>
   have hx:=h x (by simp);rw [zBn,zBn,zBn,<-ih fun y hy=>h y (by simp [hy])];cases hf:f x <;> cases hg:g x <;> simp_all <;> omega
theorem uQ (he:EndOk S N) (hp:R.Perm (List.range (N+1))) {c:Nat} (hc:0 < c) (r:Nat):cE (aE S R) c r=aBv S R N c r:=by
 obtain ⟨e1,e2,e3⟩:=he;have hn:R.Nodup:=hp.nodup_iff.2 List.nodup_range;unfold cE aBv;have h1:(aE S R).countP (fun x=>decide (x < c))=(List.range (N+1)).countP fun p=>decide (S.getD p 0 < c):=by
  unfold aE;rw [List.countP_map,hp.countP_eq];refine fR _ _ ?_ fun p hp=>?_;simp only [Function.comp];rw [bW oM,e1];rfl
  · simp only [Function.comp];rw [bE oM]
 have h2:((aE S R).take r).count c=(List.range (N+1)).countP fun p=>decide (S.getD p 0=c)&&decide (ro R (p+1) < r):=by
  unfold aE;rw [<-List.map_take,List.count_eq_countP,List.countP_map,yN hn,hp.countP_eq];refine fR _ _ ?_ fun p hp=>?_
  · simp only [Function.comp];rw [bW oM,e1];have:(N+1 - 1)=N:=oM;rw [this,e2];have hc0:¬(0:Nat)=c:=oM;simp [hc0]
  simp only [Function.comp];rw [bE oM];rfl
 rw [h1,h2,aAj]
 · refine List.countP_congr fun p _=>?_;simp
 intro p _ ⟨ha,hb⟩;simp at ha hb;omega
theorem aCR {K:Nat->Bool}:∀ {O:List Nat},O.Pairwise (fun p q=>K q=true->K p=true)->∀(j p:Nat),O[j]?=some p->(K p=true↔j < O.countP K)
 | [],_,j,p,h=>by simp at h
 | x::O,hO,j,p,h=>by
   obtain ⟨h1,h2⟩:=List.pairwise_cons.1 hO;cases hx:K x with
   | true=>
     rw [List.countP_cons_of_pos hx];cases j with
     | zero=>
       injection h with h;subst h;simp [hx]
     | succ j=>
       rw [aCR h2 j p h];omega
   | false=>
     have h0:(x::O).countP K=0:=by
        rw [List.countP_eq_zero];intro y hy;rcases List.mem_cons.1 hy with rfl | hy
        · simp [hx]
        · intro hk;have:=h1 y hy hk;rw [hx] at this;cases this
     rw [h0];have hp:p∈x::O:=zAd h;have:=(List.countP_eq_zero.1 h0) p hp;simp [this]
def KB (S R:List Nat) (i p:Nat):Bool:=decide (S.getD p 0 < S.getD i 0∨(S.getD p 0=S.getD i 0/\ro R (p+1) < ro R (i+1)))
theorem aHB (h:Near S R N (i+1)) (hi:i<=N):∀p,p<=N->p≠i->(KB S R i p=true↔bM (ro R p) (ro R i) < aBv S R N (S.getD i 0) (ro R (i+1))):=by
 intro p hp hpi;have hn:=h.nodup;have hgi:=cV (h.mem.2 hi);have hgp:=cV (h.mem.2 hp);have hil:=(zAc.1 hgi).1;have hperm:=iX hgi;have hnd:(aI R (ro R i)).Nodup:=(List.nodup_cons.1 (hperm.nodup_iff.2 hn)).2;have hne:ro R p≠ro R i:=fun e=>hpi (gO (h.mem.2 hp) (h.mem.2 hi) e);have hat:(aI R (ro R i))[bM (ro R p) (ro R i)]?=some p:=by
  unfold bM;rw [eE _ hil];by_cases c:ro R i < ro R p;rw [zBx c,zBw oM,<-hgp];congr 1;omega
  · rw [zBw c,zBx oM,<-hgp]
 have hcnt:aBv S R N (S.getD i 0) (ro R (i+1))=(aI R (ro R i)).countP (KB S R i):=by
  unfold aBv;rw [<-h.perm.countP_eq,<-hperm.countP_eq,zBn];have h0:decide (S.getD i 0 < S.getD i 0∨(S.getD i 0=S.getD i 0/\ro R (i+1) < ro R (i+1)))=false:=by rw [decide_eq_false_iff_not];omega
  rw [h0];rfl
 rw [hcnt];refine aCR ?_ _ _ hat;rw [zAr];intro a b ha hb hab hkb;have hda:(aI R (ro R i))[a]?=some (aI R (ro R i))[a]:=zAa ha;have hdb:(aI R (ro R i))[b]?=some (aI R (ro R i))[b]:=zAa hb;obtain ⟨x,hx⟩:=eqx ((aI R (ro R i))[a]);obtain ⟨y,hy⟩:=eqx ((aI R (ro R i))[b]);rw [hx] at hda⊢;rw [hy] at hdb hkb;have hni:=(List.nodup_cons.1 (hperm.nodup_iff.2 hn)).1;have hma:=zAd hda;have hmb:=zAd hdb;have hxi:x≠i:=fun e=>hni (by rw [e] at hma;exact hma);have hyi:y≠i:=fun e=>hni (by rw [e] at hmb;exact hmb);have hxR:x∈R:=hperm.subset (by simp [zAd hda]);have hyR:y∈R:=hperm.subset (by simp [zAd hdb]);have hxN:=h.mem.1 hxR;have hyN:=h.mem.1 hyR;have rx:∀ {a' x':Nat},(aI R (ro R i))[a']?=some x'->ro R x'=if a' < ro R i then a' else a'+1:=fun {a' x'} hh=>by rw [eE _ hil] at hh;split at hh;rw [zBx (by assumption)];exact fJ hn hh;rw [zBw (by assumption)];exact fJ hn hh
 have hlt:ro R x < ro R y:=by rw [rx hda,rx hdb];split <;> split <;> omega
 have hxy:x≠y:=fun e=>by subst e;omega
 have hk:=(h.cons x y hxN hyN hxy oM oM).1 hlt;unfold KB at hkb⊢;rw [zCa] at hkb⊢;unfold xI at hk;omega
def tgt (S R:List Nat) (i:Nat):Nat:=cE (aE S R) (S.getD i 0) (ro R (i+1))
theorem aFt (h:Near S R N (i+1)) (hi:i < N):tgt S R i=aBv S R N (S.getD i 0) (ro R (i+1)):=uQ h.endk h.perm (h.endk.pos i hi) _
theorem aFs (h:Near S R N (i+1)) (hi:i < N):tgt S R i < N+1:=by
 rw [aFt h hi];unfold aBv;have hb:(List.range (N+1)).countP (fun p=>decide (S.getD p 0 < S.getD i 0∨(S.getD p 0=S.getD i 0/\ro R (p+1) < ro R (i+1))))≠(List.range (N+1)).length:=fun e=>by have:=(List.countP_eq_length.1 e) i (by simp;omega);rw [zCa] at this;omega
 have hle:=zBh (p:=fun p=>decide (S.getD p 0 < S.getD i 0∨(S.getD p 0=S.getD i 0/\ro R (p+1) < ro R (i+1)))) (l:=List.range (N+1));rw [zCh] at hb hle;omega
theorem aDR (h:Near S R N (i+1)) (hi:i < N) {R':List Nat} {t:Nat} (ht:t=tgt S R i) (hp':R'.Perm R) (hi':ro R' i=t) (ho:∀p∈R,p≠i->ro R' p=inR (bM (ro R p) (ro R i)) t) (j:Nat) (hj:j=i∨(ro R i=t/\j=0)):Near S R' N j:=by
 have hk:=aHB h oM;rw [<-aFt h hi,<-ht] at hk;have hmem:∀p,p<=N->p∈R:=fun p hp=>h.mem.2 hp;have hne:∀p,p<=N->p≠i->ro R p≠ro R i:=fun p hp hpi e=>hpi (gO (hmem p hp) (hmem i oM) e);have hord:∀p q,p<=N->q<=N->p≠i->q≠i->(ro R' p < ro R' q↔ro R p < ro R q):=fun p q hp hq hpi hqi=>by rw [ho p (hmem p hp) hpi,ho q (hmem q hq) hqi];have h1:=hne p hp hpi;have h2:=hne q hq hqi;unfold inR bM;split <;> split <;> split <;> split <;> omega
 have hbef:∀p,p<=N->p≠i->(ro R' p < ro R' i↔KB S R i p=true):=fun p hp hpi=>by rw [hk p hp hpi,hi',ho p (hmem p hp) hpi];unfold inR;split <;> omega
 have haft:∀p,p<=N->p≠i->(ro R' i < ro R' p↔¬KB S R i p=true):=fun p hp hpi=>by rw [hk p hp hpi,hi',ho p (hmem p hp) hpi];unfold inR;split <;> omega
 have hsucc:∀p,p < N->p≠i->(p+1≠i∨ro R i=t)->(ro R (p+1) < ro R (i+1)↔ro R' (p+1) < ro R' (i+1)):=fun p hp hpi hc=>by
  rcases hc with hc | hc;exact (hord (p+1) (i+1) oM oM hc oM).symm
  · have he:∀q,q<=N->ro R' q=ro R q:=fun q hq=>by
        by_cases hqi:q=i;subst hqi;omega
        · rw [ho q (hmem q hq) hqi,hc];have:=hne q hq hqi;unfold inR bM;split <;> split <;> omega
    rw [he _ oM,he _ oM]
 obtain ⟨e1,e2,e3⟩:=h.endk;refine ⟨h.endk,hp'.trans h.perm,fun p q hp hq hlt=>?_,fun p q hp hq hpq hpj hqj=>?_⟩;by_cases hpi:p=i;subst hpi;by_cases hqi:q=p;subst hqi;omega;have:=(haft q hq hqi).1 hlt;unfold KB at this;rw [zCa] at this;omega;by_cases hqi:q=i;subst hqi;have:=(hbef p hp hpi).1 hlt;unfold KB at this;rw [zCa] at this;omega;exact h.first p q hp hq ((hord p q hp hq hpi hqi).1 hlt)
 · have hend:∀x y,x<=N->y<=N->x≠y->S.getD x 0=S.getD y 0->x < N/\y < N:=fun x y hx hy hxy hxye=>by refine ⟨Nat.lt_of_le_of_ne hx fun e=>?_,Nat.lt_of_le_of_ne hy fun e=>?_⟩;subst e;have:=e3 y oM;omega;subst e;have:=e3 x oM;omega
   by_cases hpi:p=i;subst hpi;have hqi:q≠p:=fun e=>hpq e.symm;rw [haft q hq hqi];unfold KB xI;rw [zCa];by_cases hee:S.getD q 0=S.getD p 0;obtain ⟨hx1,hx2⟩:=hend q p hq hp hqi hee;have:=hsucc q hx1 hqi oM;have hneq:ro R (q+1)≠ro R (p+1):=fun e=>hqi (by have:=gO (hmem (q+1) oM) (hmem (p+1) oM) e;omega);have hneq':ro R' (q+1)≠ro R' (p+1):=fun e=>hqi (by have:=gO ((hp'.trans h.perm).mem_iff.2 (by simp;omega)) ((hp'.trans h.perm).mem_iff.2 (by simp;omega)) e;omega);omega;omega
   · by_cases hqi:q=i;subst hqi;rw [hbef p hp hpi];unfold KB xI;rw [zCa];by_cases hee:S.getD p 0=S.getD q 0;obtain ⟨hx1,hx2⟩:=hend p q hp hq hpi hee;have:=hsucc p hx1 hpi oM;omega;omega
     · rw [hord p q hp hq hpi hqi,h.cons p q hp hq hpq oM oM];unfold xI;by_cases hee:S.getD p 0=S.getD q 0
       · obtain ⟨hx1,hx2⟩:=hend p q hp hq hpq hee;by_cases hz:ro R i=t
         · have he:∀q,q<=N->ro R' q=ro R q:=fun q hq=>by
            by_cases hqi:q=i;subst hqi;omega
            · rw [ho q (hmem q hq) hqi,hz];have:=hne q hq hqi;unfold inR bM;split <;> split <;> omega
           rw [he _ oM,he _ oM]
         · rw [hord (p+1) (q+1) oM oM oM oM]
       omega
end
end Go.Proofs.YtnhmjomhloainaaGreatDoor
namespace Go.Proofs.YtnhmjomhloainaaGreatDoor
open Go.RowKit
structure LiveG (w:World) (Bw gl gk gp rate n:Nat) (L:List Nat) (pr:List (Nat×Nat)):Prop where
 blk:∃mv:Int,Bk w gl 87 #[.pointer (some ⟨gk,0,none⟩),.pointer (some ⟨gp,0,none⟩),.int .i64 (rate:Int),.int .i64 mv]
 walk:WalkAt w Bw gk L
 perm:PermR w gp n n pr
theorem LiveG.vis {w w':World} {Bw gl gk gp rate n:Nat} {L:List Nat} {pr:List (Nat×Nat)} (h:LiveG w Bw gl gk gp rate n L pr) (k:Vis w w'):LiveG w' Bw gl gk gp rate n L pr:=by
 obtain ⟨mv,h1⟩:=h.blk;exact ⟨⟨mv,k.bk h1 dC dC⟩,h.walk.vis k,h.perm.vis k⟩
theorem LiveG.lvw {w:World} {Bw gl gk gp rate n:Nat} {L:List Nat} {pr:List (Nat×Nat)} (h:LiveG w Bw gl gk gp rate n L pr):LvW w Bw gl L:=by
 obtain ⟨mv,h1⟩:=h.blk;exact ⟨gk,_,_,_,h1,h.walk⟩
theorem LiveG.mono {w:World} {Bw B' gl gk gp rate n:Nat} {L:List Nat} {pr:List (Nat×Nat)} (h:LiveG w Bw gl gk gp rate n L pr) (hB:B'<=Bw):LiveG w B' gl gk gp rate n L pr:=⟨h.blk,h.walk.mono hB,h.perm⟩
theorem LiveG.lt {w:World} {Bw gl gk gp rate n:Nat} {L:List Nat} {pr:List (Nat×Nat)} (h:LiveG w Bw gl gk gp rate n L pr):gl < w.heap.size:=h.lvw.lt
theorem sB (C:List (Nat×Nat)):C=(List.range C.length).map fun k=>(aC C k,aF C k):=by
 apply List.ext_getElem?;intro i;rw [zAf];by_cases h:i < C.length;rw [zCj h,zAa h];unfold aC aF;rw [Option.map_some,zAb,zAa h];rfl;rw [zBg oM,zBg (by simpa using h)];rfl
theorem LiveAt.g {w:World} {Bw gl gk gp ga:Nat} {vl vo vt:Value} {B n rate:Nat} {L:List Nat} {C:List (Nat×Nat)} {tk:List Bool} (h:LiveAt w Bw gl gk gp ga vl vo vt B n rate L C tk) (hC:C.Pairwise (fun a b=>a.1 < b.1)) (hl:C.length<=1000):LiveG w Bw gl gk gp rate n L C:=
 ⟨⟨0,h.blk⟩,h.walk,B,ga,vl,vo,vt,_,_,C,tk, [],h.perm,zT C hC,hl,by rw [zCh];exact hl,sB C⟩
theorem uH {rs:List Nat} {rate n:Nat} (hn:n<=rs.length):∀x∈cP rs rate n,rs[x.1]?=some x.2:=fun x hx=>by
 obtain ⟨h1,h2⟩:=mV hx;rw [h2,zAb,zAa (show x.1 < rs.length by omega)];rfl
theorem aEs {t:List UInt8} {rs:List Nat} {rate:Nat} (hs:IsSuf (aD t) rs):∃x∈cP rs rate (t.length+1),x.2=0:=by
 obtain ⟨j,hj,ej⟩:=hs.row (p:=0) (by rw [aJ];omega);refine ⟨(j,0),(aFJ _ _ _ _ _).2 ⟨?_,?_,Nat.zero_mod _⟩,rfl⟩;have:=hs.len;rw [aJ] at this;omega;rw [zAb,zAa hj,ej];rfl
theorem gG (Bw gl gk gp rate:Nat) (t:List UInt8) (rs:List Nat) (C:List (Nat×Nat)) (i p:Nat) (w:World) (h:LiveG w Bw gl gk gp rate (t.length+1) (aE (aD t) rs) C) (hrt:∀x∈C,rs[x.1]?=some x.2) (hs:IsSuf (aD t) rs) (hn:t.length<=127) (hip:rs[i]?=some p):
 Calls Tryz.prog 57 #[.pointer (some ⟨gl,0,none⟩),.int .i64 (p:Int)] w fun e w'=>e=.returned (.int .i64 (i:Int))/\VB Bw w w':=by
 have hl:rs.length=t.length+1:=by rw [hs.len,aJ]
 have hL:(aE (aD t) rs).length=t.length+1:=by rw [bJ,hl]
 have hpN:p < t.length+1:=by have:=hs.lt (zAd hip);rwa [aJ] at this
 have hr0:=pK hs;obtain ⟨N,hN⟩:=eqx t.length;have hstep:∀a b:Nat,rs[a]?=some (b+1)->∃s a',(aE (aD t) rs)[a]?=some s/\cE (aE (aD t) rs) s a=a'/\rs[a']?=some b:=fun a b hab=>by obtain ⟨ha,ea⟩:=zAc.1 hab;have hbm:b+1 < (aD t).length:=hs.lt (zAd hab);obtain ⟨a',ha',ea'⟩:=hs.row (p:=b) oM;have he:=dZ t;have hla:=pT he ha ea (by rw [aJ] at hbm;omega);exact ⟨(aD t).getD b 0,a',zAc.2 ⟨_,hla⟩,lf hs he ha ha' ea ea',zAc.2 ⟨ha',ea'⟩⟩
 have hle:∀a b:Nat,rs[a]?=some b->b<=t.length/\a<=t.length:=fun a b hab=>by have h1:=hs.lt (zAd hab);rw [aJ] at h1;have h2:=(zAc.1 hab).1;omega
 have huni:∀a,rs[a]?=some p->a=i:=fun a ha=>tL hs ha hip;rw [hN] at h;rw [hN] at hL hpN hn hl hr0 hle;have hp0:decide ((p:Int) < 0)=false:=by simp
 have hp1:¬N < p:=oM;have hp2:decide (N < p)=false:=zBy hp1;obtain ⟨H,Hr0,HCm,Hstep,Hle,Huni,HL⟩:=hqq7 h hr0 hrt hstep hle huni hL;have HLt:=lhd (dG (eK t) (rs:=rs));obtain ⟨mv,hblk⟩:=h.blk;have c0:=hblk.cell 0;have c1:=hblk.cell 1;have hlt:=hblk.lt;clear h hr0 hrt hstep hle huni hL hs hip hN hl hblk;go_enter Tryz.func57,Tryz.ntmps57;go_wp2_with fail;refine (bQ Bw gl _ N w H.out.lvw HL.out oM).mono ?_;rintro e w1 ⟨rfl,rfl⟩;go_wp2_with fail;refine (bQ Bw gl _ N w H.out.lvw HL.out oM).mono ?_;rintro e w1 ⟨rfl,rfl⟩;go_wp2_with fail;have hnext:=oE gp (N+1) (N+1) C p w H.out.perm;unfold rV at hnext;refine hnext.mono ?_;rintro e w2 ⟨z,rfl,hz,hb2⟩;clear hnext;have hv2:VB Bw w w2:=VisK.of_below hb2;have h2:=H.out.vis hv2.1;obtain ⟨mv2,hblk2⟩:=h2.blk;have c20:=hblk2.cell 0;have c21:=hblk2.cell 1;have hlt2:=hblk2.lt;obtain ⟨H2,Hv2⟩:=hqq2 h2 hv2;clear hb2 hv2 h2 c0 c1 hlt hblk2;rcases hz with ⟨hz,_⟩|⟨⟨k1,q⟩,hk,hz,hkp,_⟩
 · subst hz;go_wp2_with fail;go_loopw [5,6] (fun x y wr=>∃a r:Nat,p<=a/\a<=N/\rs[r]?=some a/\x=.int .i64 (a:Int)/\y=.int .i64 (r:Int)/\VB Bw w wr) (fun x _ _=>(intOf x).toNat)
   case atStart=>exact ⟨N,0,by omega,zAs _,Hr0.out,rfl,rfl,Hv2.out⟩
   case round=>
    obtain ⟨a,r,hpa,haN,hra,rfl,rfl,hv⟩:=hrel;have h1:=H.out.vis hv.1;obtain ⟨mv1,hblk1⟩:=h1.blk;have c10:=hblk1.cell 0;have hlt1:=hblk1.lt;obtain ⟨Hv,H1,Hra⟩:=hqq3 hv h1 hra;clear h1 hv hra hblk1;by_cases hap:p < a
    · obtain ⟨b,hb⟩:∃b,a=b+1:=⟨a - 1,by omega⟩;obtain ⟨s,r',hs1,hs2,hs3⟩:=Hstep.out r b (by rw [<-hb];exact Hra.out);have e1:IntKind.i64.wrap ((a:Int) - 1)=(b:Int):=(by rw [IntKind.wrap_i64];omega);obtain ⟨Hs1,Hs2,Hs3⟩:=hqq3 hs1 hs2 hs3;have hbp:p<=b:=oM;have hbN:b < a:=oM;clear hs1 hs2 hs3 hb;go_wp2_with fail;refine (lD Bw gk _ r s wr H1.out.walk Hs1.out HLt.out (by rw [HL.out];omega)).mono ?_;rintro e w5 ⟨rfl,hv5⟩;rw [Hs2.out];have hv6:=Hv.out.trans hv5;have Hv6:=lhd hv6;clear hv5 hv6;go_wp2_with fail;go_roundw
      case rel=>exact ⟨b,r',hbp,by omega,Hs3.out,by go_num,by first | rfl | trivial,Hv6.out⟩
      case measure=>simp [intOf];omega
    · obtain rfl:a=p:=oM;have hri:=Huni.out r Hra.out;subst hri;go_wp2_with fail;go_ret;exact ⟨rfl,Hv.out⟩
 · subst hz;have hkp:p<=q:=hkp;have hex:∃x∈C,x.2=q:=⟨_,hk,rfl⟩;have hq0:decide ((q:Int)>=0)=true:=(by simp);go_wp2_with fail;have hrow:=qN gp (N+1) (N+1) C q w2 H2.out.perm hex;unfold wR at hrow;refine hrow.mono ?_;rintro e w3 ⟨r0,hrm,rfl,hb3⟩;have hrq:=HCm.out _ hrm;have hrq:rs[r0]?=some q:=hrq;have hv3:=Hv2.out.below hb3;obtain ⟨Hrq,Hv3⟩:=hqq2 hrq hv3;have hqN:=(Hle.out r0 q hrq).1;clear hrow hrm hrq hb3 hv3 hex c20 c21 hlt2 hq0;go_wp2_with fail;go_loopw [5,6] (fun x y wr=>∃a r:Nat,p<=a/\a<=N/\rs[r]?=some a/\x=.int .i64 (a:Int)/\y=.int .i64 (r:Int)/\VB Bw w wr) (fun x _ _=>(intOf x).toNat)
   case atStart=>exact ⟨q,r0,hkp,hqN,Hrq.out,rfl,rfl,Hv3.out⟩
   case round=>
    obtain ⟨a,r,hpa,haN,hra,rfl,rfl,hv⟩:=hrel;have h1:=H.out.vis hv.1;obtain ⟨mv1,hblk1⟩:=h1.blk;have c10:=hblk1.cell 0;have hlt1:=hblk1.lt;obtain ⟨Hv,H1,Hra⟩:=hqq3 hv h1 hra;clear h1 hv hra hblk1;by_cases hap:p < a
    · obtain ⟨b,hb⟩:∃b,a=b+1:=⟨a - 1,by omega⟩;obtain ⟨s,r',hs1,hs2,hs3⟩:=Hstep.out r b (by rw [<-hb];exact Hra.out);have e1:IntKind.i64.wrap ((a:Int) - 1)=(b:Int):=(by rw [IntKind.wrap_i64];omega);obtain ⟨Hs1,Hs2,Hs3⟩:=hqq3 hs1 hs2 hs3;have hbp:p<=b:=oM;have hbN:b < a:=oM;clear hs1 hs2 hs3 hb;go_wp2_with fail;refine (lD Bw gk _ r s wr H1.out.walk Hs1.out HLt.out (by rw [HL.out];omega)).mono ?_;rintro e w5 ⟨rfl,hv5⟩;rw [Hs2.out];have hv6:=Hv.out.trans hv5;have Hv6:=lhd hv6;clear hv5 hv6;go_wp2_with fail;go_roundw
      case rel=>exact ⟨b,r',hbp,by omega,Hs3.out,by go_num,by first | rfl | trivial,Hv6.out⟩
      case measure=>simp [intOf];omega
    · obtain rfl:a=p:=oM;have hri:=Huni.out r Hra.out;subst hri;go_wp2_with fail;go_ret;exact ⟨rfl,Hv.out⟩
end Go.Proofs.YtnhmjomhloainaaGreatDoor
namespace Go.Proofs.YtnhmjomhloainaaGreatDoor
theorem aEH {t:List UInt8} {rs:List Nat} (h:IsSuf (aD t) rs) {r:Nat} (hr:rs[r]?=some 0):(aE (aD t) rs)[r]?=some 0:=by
 unfold aE;rw [zAf,hr];obtain ⟨e1,e2,e3⟩:=dZ t;show some (bT (aD t) 0)=some 0;rw [bW oM,e1];have:t.length+1 - 1=t.length:=oM;rw [this,e2]
theorem aDg {t:List UInt8} {rs:List Nat} (h:IsSuf (aD t) rs):(aE (aD t) rs).count 0=1:=by
 obtain ⟨e1,e2,e3⟩:=dZ t;unfold aE;rw [List.count_eq_countP,List.countP_map,h.count,e1,fR (m:=t.length) _ (fun p=>(aD t).getD p 0==0)]
 · rw [List.range_succ,List.countP_append];have h0:(List.range t.length).countP (fun p=>(aD t).getD p 0==0)=0:=List.countP_eq_zero.2 fun p hp hz=>by have:=e3 p (zCi.1 hp);rw [zCp] at hz;omega
   rw [h0];simp only [List.countP_singleton,e2];rfl
 · simp only [Function.comp];rw [bW oM,e1];congr 2
 · intro p hp;simp only [Function.comp];rw [bE oM]
theorem aEE {L:List Nat} {k x:Nat} (hx:L[k]?=some x) (s:Nat):cE L s (k+1)=if s=x then cE L s k+1 else cE L s k:=by
 unfold cE;rw [zAv,hx,zCc];by_cases e:s=x;subst e;rw [zBx rfl];simp;omega
 · rw [zBw e];have:([x]:List Nat).count s=0:=(by rw [List.count_eq_zero];intro h;simp at h;exact e h);show _+((L.take k).count s+ [x].count s)=_;rw [this,zBq]
end Go.Proofs.YtnhmjomhloainaaGreatDoor
namespace Go.Proofs.YtnhmjomhloainaaGreatDoor
open Go.RowKit
theorem jN (C:List (Nat×Nat)) (k r:Nat) (hk:k < C.length):(bO C).set (k*2) (.int .i64 (r:Int))=bO (C.set k (r,aF C k)):=by
 apply List.ext_getElem?;intro j;have hl:=cW C;have hl2:=cW (C.set k (r,aF C k));rw [zAt] at hl2;rw [zBm];by_cases hj:j < C.length*2
 · have hi:j / 2 < C.length:=oM;obtain ⟨p0,p1⟩:=cD C (j / 2) hi;obtain ⟨q0,q1⟩:=cD (C.set k (r,aF C k)) (j / 2) (by rw [zAt];exact hi);have er:aC (C.set k (r,aF C k)) (j / 2)=if k=j / 2 then r else aC C (j / 2):=by
    unfold aC;rw [zAb,zBm,zAb];by_cases c:k=j / 2
    · simp [c,hi]
    · simp [c]
   have ep:aF (C.set k (r,aF C k)) (j / 2)=aF C (j / 2):=by
    unfold aF;rw [zAb,zBm,zAb,zAb];by_cases c:k=j / 2
    · subst c;simp [hi]
    · simp [c]
   rw [er] at q0;rw [ep] at q1;by_cases ho:j % 2=0
   · have e:j / 2*2=j:=oM;rw [e] at p0 q0;rw [q0];by_cases c:k*2=j
     · rw [zBx c,zBx oM,zBx oM]
     · rw [zBw c,p0,zBw oM]
   · have e:j / 2*2+1=j:=oM;rw [e] at p1 q1;rw [q1,zBw oM,p1]
 · rw [zBw oM,zBg oM,zBg oM]
theorem mB (C:List (Nat×Nat)) (k p:Nat) (hk:k < C.length):(bO C).set (k*2+1) (.int .i64 (p:Int))=bO (C.set k (aC C k,p)):=by
 apply List.ext_getElem?;intro j;have hl:=cW C;have hl2:=cW (C.set k (aC C k,p));rw [zAt] at hl2;rw [zBm];by_cases hj:j < C.length*2
 · have hi:j / 2 < C.length:=oM;obtain ⟨p0,p1⟩:=cD C (j / 2) hi;obtain ⟨q0,q1⟩:=cD (C.set k (aC C k,p)) (j / 2) (by rw [zAt];exact hi);have er:aC (C.set k (aC C k,p)) (j / 2)=aC C (j / 2):=by
    unfold aC;rw [zAb,zBm,zAb,zAb];by_cases c:k=j / 2
    · subst c;simp [hi]
    · simp [c]
   have ep:aF (C.set k (aC C k,p)) (j / 2)=if k=j / 2 then p else aF C (j / 2):=by
    unfold aF;rw [zAb,zBm,zAb];by_cases c:k=j / 2
    · simp [c,hi]
    · simp [c]
   rw [er] at q0;rw [ep] at q1;by_cases ho:j % 2=0
   · have e:j / 2*2=j:=oM;rw [e] at p0 q0;rw [q0,zBw oM,p0]
   · have e:j / 2*2+1=j:=oM;rw [e] at p1 q1;rw [q1];by_cases c:k*2+1=j
     · rw [zBx c,zBx oM,zBx oM]
     · rw [zBw c,p1,zBw oM]
 · rw [zBw oM,zBg oM,zBg oM]
theorem dL {z:Int} (h0:-9223372036854775808<=z) (h1:z<=9223372036854775807):wrap64 z=z:=by unfold wrap64;omega
theorem pM {w w':World} {B n sz:Nat} {e:TypeId} {v:Value} {xs:List Value} (h:w.ownsRow B e sz v n xs) (k:w'.heap=w.heap):w'.ownsRow B e sz v n xs:=aB h fun b cs _ hb=>by unfold Bk at hb⊢;rw [k];exact hb
theorem kC (C:List (Nat×Nat)) (k:Nat) (hk:k < C.length):C.set k (aC C k,aF C k)=C:=by
 have e:(aC C k,aF C k)=C[k]:=by unfold aC aF;rw [zAb,zAa hk];rfl
 rw [e,List.set_getElem_self]
def mvR (a t r:Nat):Nat:=if r=a then t else inR (bM r a) t
theorem aDB (B gl n c gx z k:Nat) (C:List (Nat×Nat)) (w:World) (h:w.ownsRow B 159 2 (.slice (some ⟨gl,0,none⟩) n c) n (bO C)) (hk:k < C.length) (hx:Bk w gx 3 #[.int .i64 (z:Int)]) (hC:aC C k<=1000000000000):
 Calls Tryz.prog 136 #[.pointer (some ⟨gl,k*2,none⟩),.pointer (some ⟨gx,0,none⟩)] w fun e w'=>e=.returned (.tuple #[])/\w'.ownsRow B 159 2 (.slice (some ⟨gl,0,none⟩) n c) n (bO (C.set k (inR (aC C k) z,aF C k)))/\Keep (fun b=>b=gl) w w':=by
 obtain ⟨p0,p1⟩:=cD C k hk;have hn:C.length=n:=by have h1:=h.1;rw [cW] at h1;omega
 have d0:=(World.ownsRow.cellAt h (k*2) oM).trans p0;have d1:=(World.ownsRow.cellAt h (k*2+1) oM).trans p1;have x0:w.cell? ⟨gx,0,none⟩=some (.int .i64 (z:Int)):=(hx.cell 0).trans rfl;obtain ⟨cur,hcur⟩:=eY h;have fr:=hcur.frozen (k*2);have hgl:=hcur.lt;have hgx:=hx.lt;have hself:=kC C k hk;have hset:=fun v=>jN C k v hk;obtain ⟨r,hr⟩:=eqx (aC C k);obtain ⟨p,hp⟩:=eqx (aF C k);rw [hr] at d0 hself hC;rw [hp] at d1 hself hset;rw [hr,hp];obtain ⟨H,Hself,Hset⟩:=hqq3 h hself hset;clear h hk hx p0 p1 hcur hself hset hn hr hp;by_cases hz:z<=r
 · have z1:decide ((r:Int)>=(z:Int))=true:=zBz oM;have e1:wrap64 ((r:Int)+1)=((r+1:Nat):Int):=(by unfold wrap64;omega);have ho:=(World.ownsRow.stored H.out (k*2) (.int .i64 ((r+1:Nat):Int))).1;rw [Hset.out] at ho;have Ho:=lhd ho;clear ho;go_enter Tryz.func136,Tryz.ntmps136;go_wp2_with fail;go_quiet (fail);go_wp2_with fail;go_end0;refine ⟨rfl,?_,Keep.setCell (F:=fun b=>b=gl) ((Keep.refl _ _).drewN _) (p:=⟨gl,k*2,none⟩) (.inl rfl) _⟩;have e2:inR (r) z=r+1:=(by unfold inR;rw [zBx oM]);rw [e2];exact Ho.out
 · have z1:decide ((r:Int)>=(z:Int))=false:=zBy oM;go_enter Tryz.func136,Tryz.ntmps136;go_wp2_with fail;go_quiet (fail);go_wp2_with fail;go_end0;refine ⟨rfl,?_,(Keep.refl _ _).drewN _⟩;have e2:inR (r) z=r:=(by unfold inR;rw [zBw oM]);rw [e2,Hself.out];exact H.out
theorem aDC (B gl n c gx z k:Nat) (C:List (Nat×Nat)) (w:World) (h:w.ownsRow B 159 2 (.slice (some ⟨gl,0,none⟩) n c) n (bO C)) (hk:k < C.length) (hx:Bk w gx 3 #[.int .i64 (z:Int)]) (hC:aF C k<=1000000000000):
 Calls Tryz.prog 137 #[.pointer (some ⟨gl,k*2,none⟩),.pointer (some ⟨gx,0,none⟩)] w fun e w'=>e=.returned (.tuple #[])/\w'.ownsRow B 159 2 (.slice (some ⟨gl,0,none⟩) n c) n (bO (C.set k (aC C k,inR (aF C k) z)))/\Keep (fun b=>b=gl) w w':=by
 obtain ⟨p0,p1⟩:=cD C k hk;have hn:C.length=n:=by have h1:=h.1;rw [cW] at h1;omega
 have d0:=(World.ownsRow.cellAt h (k*2) oM).trans p0;have d1:=(World.ownsRow.cellAt h (k*2+1) oM).trans p1;have x0:w.cell? ⟨gx,0,none⟩=some (.int .i64 (z:Int)):=(hx.cell 0).trans rfl;obtain ⟨cur,hcur⟩:=eY h;have fr:=hcur.frozen (k*2+1);have hgl:=hcur.lt;have hgx:=hx.lt;have hself:=kC C k hk;have hset:=fun v=>mB C k v hk;obtain ⟨r,hr⟩:=eqx (aC C k);obtain ⟨p,hp⟩:=eqx (aF C k);rw [hr] at d0 hself hset;rw [hp] at d1 hself hC;rw [hr,hp];obtain ⟨H,Hself,Hset⟩:=hqq3 h hself hset;clear h hk hx p0 p1 hcur hself hset hn hr hp;by_cases hz:z<=p
 · have z1:decide ((p:Int)>=(z:Int))=true:=zBz oM;have e1:wrap64 ((p:Int)+1)=((p+1:Nat):Int):=(by unfold wrap64;omega);have ho:=(World.ownsRow.stored H.out (k*2+1) (.int .i64 ((p+1:Nat):Int))).1;rw [Hset.out] at ho;have Ho:=lhd ho;clear ho;go_enter Tryz.func137,Tryz.ntmps137;go_wp2_with fail;go_quiet (fail);go_wp2_with fail;go_end0;refine ⟨rfl,?_,Keep.setCell (F:=fun b=>b=gl) ((Keep.refl _ _).drewN _) (p:=⟨gl,k*2+1,none⟩) (.inl rfl) _⟩;have e2:inR (p) z=p+1:=(by unfold inR;rw [zBx oM]);rw [e2];exact Ho.out
 · have z1:decide ((p:Int)>=(z:Int))=false:=zBy oM;go_enter Tryz.func137,Tryz.ntmps137;go_wp2_with fail;go_quiet (fail);go_wp2_with fail;go_end0;refine ⟨rfl,?_,(Keep.refl _ _).drewN _⟩;have e2:inR (p) z=p:=(by unfold inR;rw [zBw oM]);rw [e2,Hself.out];exact H.out
theorem yD (B gp ga gx0 z0:Nat) (vl vo vt vf:Value) (R P:Nat) (ks:List Nat) (C:List (Nat×Nat)) (tk:List Bool) (fr:List Nat) (w:World) (h:PermAt w B gp ga vl vo vt vf R P ks C tk fr) (hnd:ks.Nodup) (hl:ks.length<=1000000) (hx0:Bk w gx0 3 #[.int .i64 (z0:Int)]) (hgx0:∀b,vl.ownBlock=some b->b≠gx0) (hC:∀k,k∈ks->aC C k<=1000000000000/\aF C k<=1000000000000):
 Calls Tryz.prog 135 #[.pointer (some ⟨gp,0,none⟩),.func (.func 136) #[] #[.pointer (some ⟨gx0,0,none⟩)]] w fun e w'=>e=.returned (.tuple #[])/\Keep (fun b=>vl.ownBlock=some b) w w'/\∃C',C'.length=C.length/\(∀k,k∈ks->(aC C' k,aF C' k)=(inR (aC C k) z0,aF C k))/\PermAt w' B gp ga vl vo vt vf R P ks C' tk fr:=by
 obtain ⟨A2,c2,hvo,_,_⟩:=aR h.orow;have c2':w.cell? ⟨gp,2,none⟩=some (.slice A2 ks.length c2):=(h.blk.cell 2).trans (by rw [hvo];rfl);have hgp:=h.blk.lt;obtain ⟨n,hn⟩:=eqx ks.length;rw [hn] at c2' hl;obtain ⟨H,Hn,Hvo,Hnd,HC⟩:=hqq5 h hn hvo hnd hC;clear h hn hvo hnd hC;go_enter Tryz.func135,Tryz.ntmps135;go_wp2_with fail;go_loopw [11] (fun i wr=>∃(j:Nat) (Cj:List (Nat×Nat)),j<=n/\i=.int .i64 (j:Int)/\Cj.length=C.length/\(∀k,k∈ks.take j->(aC Cj k,aF Cj k)=(inR (aC C k) z0,aF C k))/\(∀k,k∈ks.drop j->(aC Cj k,aF Cj k)=(aC C k,aF C k))/\PermAt wr B gp ga vl vo vt vf R P ks Cj tk fr/\Keep (fun b=>vl.ownBlock=some b) w wr) (fun i _=>n -(intOf i).toNat)
 case atStart=>exact ⟨0,C,zAp _,rfl,rfl,fun k hk=>by simp at hk,fun k _=>rfl,H.out,Keep.refl _ _⟩
 case round=>
  obtain ⟨j,Cj,hj,rfl,hlen,hd1,hd2,hp,hk⟩:=hrel;by_cases hlt:j < n
  · have hjl:j < ks.length:=(by rw [Hn.out];exact hlt);obtain ⟨k,hkj⟩:∃k,ks[j]?=some k:=⟨_,zAa hjl⟩;have hkm:=zAd hkj;have hkC:k < Cj.length:=hp.lt k hkm;have ho2:=hp.orow;rw [Hvo.out] at ho2;obtain ⟨g2,k2,e2,_,hg2⟩:=World.ownsRow.form ho2 oM;injection e2 with e2a _ e2c;subst e2a e2c;have hlr:=hp.lrow;obtain ⟨g1,k1,e1,_,hg1⟩:=World.ownsRow.form hlr oM;rw [e1] at hlr;have d2:wr.cell? ⟨g2,j,none⟩=some (.int .i64 (k:Int)):=(World.ownsRow.cellAt ho2 j oM).trans (by rw [zAf,hkj];rfl);have d1:wr.cell? ⟨gp,1,none⟩=some (.slice (some ⟨g1,0,none⟩) Cj.length k1):=(hp.blk.cell 1).trans (by rw [e1];rfl);have hgpr:=hp.blk.lt;have hsz:=hk.size;have hkd:k∈ks.drop j:=(by rw [zAx hjl,List.getElem_eq_getElem?_get];simp [hkj]);have hCk:(aC Cj k,aF Cj k)=(aC C k,aF C k):=hd2 k hkd;injection hCk with hCr hCp;have hxr:=fun (b:Nat) (e:Value.ownBlock vl=some b)=>(World.ownsRow.lt hp.lrow b e).2;obtain ⟨N,hN⟩:=eqx Cj.length;rw [hN] at hlr d1 hkC;have hxr0:=hk.bk hx0 (fun e=>hgx0 _ e rfl);have hkI:(k:Int) < (N:Int):=oM;obtain ⟨Hp,Hk,Hlr,Hkj,Hd1,Hd2,HN,Hlen,He1⟩:=hqq9 hp hk hlr hkj hd1 hd2 hN hlen e1;obtain ⟨HCr,HCp,Hkm⟩:=hqq3 hCr hCp hkm;clear hp hk hlr hkj hd1 hd2 hN hlen e1 hCr hCp hkm hkd ho2 hxr;go_wp2_with fail;refine (aDB B g1 N k1 gx0 z0 k Cj wr Hlr.out (by rw [HN.out];exact hkC) hxr0 (by rw [HCr.out];exact (HC.out k Hkm.out).1)).mono ?_;rintro e w1 ⟨rfl,hl1,hk1⟩
    have hC':PermAt w1 B gp ga vl vo vt vf R P ks (Cj.set k (inR (aC Cj k) z0,aF Cj k)) tk fr:=by
        have hp:=Hp.out;have hne:∀b t cs,t≠159->Bk wr b t cs->b≠g1:=fun b t cs ht hb e=>by subst e;obtain ⟨cu,hcu⟩:=eY Hlr.out;exact ht (aM hb hcu).1
        refine ⟨hk1.bk hp.blk (hne _ _ _ dC hp.blk),?_,aB hp.orow fun b cs _ hb=>hk1.bk hb (hne _ _ _ dC hb),hk1.bk hp.ar (hne _ _ _ dC hp.ar),aB hp.trow fun b cs _ hb=>hk1.bk hb (hne _ _ _ dC hb),aB hp.frow fun b cs _ hb=>hk1.bk hb (hne _ _ _ dC hb),hp.apart,fun x hx=>by rw [zAt];exact hp.lt x hx,hp.lo⟩;rw [zAt,HN.out,He1.out,HN.out];exact hl1
    have hk':Keep (fun b=>vl.ownBlock=some b) w w1:=Hk.out.trans (hk1.mono fun b _ e=>by rw [He1.out,show b=g1 from e];rfl)
    have hget:∀x,(aC (Cj.set k (inR (aC Cj k) z0,aF Cj k)) x,aF (Cj.set k (inR (aC Cj k) z0,aF Cj k)) x)=if x=k then (inR (aC Cj k) z0,aF Cj k) else (aC Cj x,aF Cj x):=fun x=>by
        unfold aC aF;rw [zAb,zBm];by_cases cx:k=x;subst cx;rw [zBx rfl,zBx rfl,zBx (by rw [HN.out];exact hkC)];rfl
        · rw [zBw cx,zBw (fun e=>cx e.symm),zAb]
    have hrel:∃(j':Nat) (Cj':List (Nat×Nat)),j'<=n/\Value.int .i64 ((j+1:Nat):Int)=.int .i64 (j':Int)/\Cj'.length=C.length/\(∀k,k∈ks.take j'->(aC Cj' k,aF Cj' k)=(inR (aC C k) z0,aF C k))/\(∀k,k∈ks.drop j'->(aC Cj' k,aF Cj' k)=(aC C k,aF C k))/\PermAt w1 B gp ga vl vo vt vf R P ks Cj' tk fr/\Keep (fun b=>vl.ownBlock=some b) w w1:=by
        refine ⟨j+1,_,by omega,rfl,by rw [zAt];exact Hlen.out,fun x hx=>?_,fun x hx=>?_,hC',hk'⟩
        · rw [hget];by_cases cx:x=k
          · subst cx;rw [zBx rfl,HCr.out,HCp.out]
          rw [zBw cx];refine Hd1.out x ?_;rw [zAv,Hkj.out] at hx;simp at hx;rcases hx with hx | hx;exact hx;exact absurd hx cx
        · rw [hget];have hxk:x≠k:=fun e=>by subst e;have hd:ks.drop j=x::ks.drop (j+1):=(by have hjl:j < ks.length:=(by rw [Hn.out];exact hlt);rw [zAx hjl];have h9:=Hkj.out;rw [zAa hjl] at h9;injection h9 with h9;rw [h9]);have hnd:=(List.drop_sublist j ks).nodup Hnd.out;rw [hd,List.nodup_cons] at hnd;exact hnd.1 hx
          rw [zBw hxk];exact Hd2.out x (List.mem_of_mem_drop (by rw [<-List.drop_drop] at hx;exact hx:x∈(ks.drop j).drop 1))
    have Hrel:=lhd hrel;clear hC' hk' hget hrel hk1 hl1 d1 d2;go_wp2_with fail;go_roundw
    case rel=>exact Hrel.out
    case measure=>simp [intOf];omega
  · obtain rfl:j=n:=oM;obtain ⟨Hp,Hk,Hd1⟩:=hqq3 hp hk hd1;clear hp hk hd1 hd2;go_wp2_with fail;go_end0;refine ⟨rfl,Hk.out,Cj,hlen,fun k hk=>Hd1.out k ?_,Hp.out⟩;rw [zAg (by rw [Hn.out];exact zAs _)];exact hk
theorem yE (B gp ga gx0 z0:Nat) (vl vo vt vf:Value) (R P:Nat) (ks:List Nat) (C:List (Nat×Nat)) (tk:List Bool) (fr:List Nat) (w:World) (h:PermAt w B gp ga vl vo vt vf R P ks C tk fr) (hnd:ks.Nodup) (hl:ks.length<=1000000) (hx0:Bk w gx0 3 #[.int .i64 (z0:Int)]) (hgx0:∀b,vl.ownBlock=some b->b≠gx0) (hC:∀k,k∈ks->aC C k<=1000000000000/\aF C k<=1000000000000):
 Calls Tryz.prog 135 #[.pointer (some ⟨gp,0,none⟩),.func (.func 137) #[] #[.pointer (some ⟨gx0,0,none⟩)]] w fun e w'=>e=.returned (.tuple #[])/\Keep (fun b=>vl.ownBlock=some b) w w'/\∃C',C'.length=C.length/\(∀k,k∈ks->(aC C' k,aF C' k)=(aC C k,inR (aF C k) z0))/\PermAt w' B gp ga vl vo vt vf R P ks C' tk fr:=by
 obtain ⟨A2,c2,hvo,_,_⟩:=aR h.orow;have c2':w.cell? ⟨gp,2,none⟩=some (.slice A2 ks.length c2):=(h.blk.cell 2).trans (by rw [hvo];rfl);have hgp:=h.blk.lt;obtain ⟨n,hn⟩:=eqx ks.length;rw [hn] at c2' hl;obtain ⟨H,Hn,Hvo,Hnd,HC⟩:=hqq5 h hn hvo hnd hC;clear h hn hvo hnd hC;go_enter Tryz.func135,Tryz.ntmps135;go_wp2_with fail;go_loopw [11] (fun i wr=>∃(j:Nat) (Cj:List (Nat×Nat)),j<=n/\i=.int .i64 (j:Int)/\Cj.length=C.length/\(∀k,k∈ks.take j->(aC Cj k,aF Cj k)=(aC C k,inR (aF C k) z0))/\(∀k,k∈ks.drop j->(aC Cj k,aF Cj k)=(aC C k,aF C k))/\PermAt wr B gp ga vl vo vt vf R P ks Cj tk fr/\Keep (fun b=>vl.ownBlock=some b) w wr) (fun i _=>n -(intOf i).toNat)
 case atStart=>exact ⟨0,C,zAp _,rfl,rfl,fun k hk=>by simp at hk,fun k _=>rfl,H.out,Keep.refl _ _⟩
 case round=>
  obtain ⟨j,Cj,hj,rfl,hlen,hd1,hd2,hp,hk⟩:=hrel;by_cases hlt:j < n
  · have hjl:j < ks.length:=(by rw [Hn.out];exact hlt);obtain ⟨k,hkj⟩:∃k,ks[j]?=some k:=⟨_,zAa hjl⟩;have hkm:=zAd hkj;have hkC:k < Cj.length:=hp.lt k hkm;have ho2:=hp.orow;rw [Hvo.out] at ho2;obtain ⟨g2,k2,e2,_,hg2⟩:=World.ownsRow.form ho2 oM;injection e2 with e2a _ e2c;subst e2a e2c;have hlr:=hp.lrow;obtain ⟨g1,k1,e1,_,hg1⟩:=World.ownsRow.form hlr oM;rw [e1] at hlr;have d2:wr.cell? ⟨g2,j,none⟩=some (.int .i64 (k:Int)):=(World.ownsRow.cellAt ho2 j oM).trans (by rw [zAf,hkj];rfl);have d1:wr.cell? ⟨gp,1,none⟩=some (.slice (some ⟨g1,0,none⟩) Cj.length k1):=(hp.blk.cell 1).trans (by rw [e1];rfl);have hgpr:=hp.blk.lt;have hsz:=hk.size;have hkd:k∈ks.drop j:=(by rw [zAx hjl,List.getElem_eq_getElem?_get];simp [hkj]);have hCk:(aC Cj k,aF Cj k)=(aC C k,aF C k):=hd2 k hkd;injection hCk with hCr hCp;have hxr:=fun (b:Nat) (e:Value.ownBlock vl=some b)=>(World.ownsRow.lt hp.lrow b e).2;obtain ⟨N,hN⟩:=eqx Cj.length;rw [hN] at hlr d1 hkC;have hxr0:=hk.bk hx0 (fun e=>hgx0 _ e rfl);have hkI:(k:Int) < (N:Int):=oM;obtain ⟨Hp,Hk,Hlr,Hkj,Hd1,Hd2,HN,Hlen,He1⟩:=hqq9 hp hk hlr hkj hd1 hd2 hN hlen e1;obtain ⟨HCr,HCp,Hkm⟩:=hqq3 hCr hCp hkm;clear hp hk hlr hkj hd1 hd2 hN hlen e1 hCr hCp hkm hkd ho2 hxr;go_wp2_with fail;refine (aDC B g1 N k1 gx0 z0 k Cj wr Hlr.out (by rw [HN.out];exact hkC) hxr0 (by rw [HCp.out];exact (HC.out k Hkm.out).2)).mono ?_;rintro e w1 ⟨rfl,hl1,hk1⟩
    have hC':PermAt w1 B gp ga vl vo vt vf R P ks (Cj.set k (aC Cj k,inR (aF Cj k) z0)) tk fr:=by
        have hp:=Hp.out;have hne:∀b t cs,t≠159->Bk wr b t cs->b≠g1:=fun b t cs ht hb e=>by subst e;obtain ⟨cu,hcu⟩:=eY Hlr.out;exact ht (aM hb hcu).1
        refine ⟨hk1.bk hp.blk (hne _ _ _ dC hp.blk),?_,aB hp.orow fun b cs _ hb=>hk1.bk hb (hne _ _ _ dC hb),hk1.bk hp.ar (hne _ _ _ dC hp.ar),aB hp.trow fun b cs _ hb=>hk1.bk hb (hne _ _ _ dC hb),aB hp.frow fun b cs _ hb=>hk1.bk hb (hne _ _ _ dC hb),hp.apart,fun x hx=>by rw [zAt];exact hp.lt x hx,hp.lo⟩;rw [zAt,HN.out,He1.out,HN.out];exact hl1
    have hk':Keep (fun b=>vl.ownBlock=some b) w w1:=Hk.out.trans (hk1.mono fun b _ e=>by rw [He1.out,show b=g1 from e];rfl)
    have hget:∀x,(aC (Cj.set k (aC Cj k,inR (aF Cj k) z0)) x,aF (Cj.set k (aC Cj k,inR (aF Cj k) z0)) x)=if x=k then (aC Cj k,inR (aF Cj k) z0) else (aC Cj x,aF Cj x):=fun x=>by
        unfold aC aF;rw [zAb,zBm];by_cases cx:k=x;subst cx;rw [zBx rfl,zBx rfl,zBx (by rw [HN.out];exact hkC)];rfl
        · rw [zBw cx,zBw (fun e=>cx e.symm),zAb]
    have hrel:∃(j':Nat) (Cj':List (Nat×Nat)),j'<=n/\Value.int .i64 ((j+1:Nat):Int)=.int .i64 (j':Int)/\Cj'.length=C.length/\(∀k,k∈ks.take j'->(aC Cj' k,aF Cj' k)=(aC C k,inR (aF C k) z0))/\(∀k,k∈ks.drop j'->(aC Cj' k,aF Cj' k)=(aC C k,aF C k))/\PermAt w1 B gp ga vl vo vt vf R P ks Cj' tk fr/\Keep (fun b=>vl.ownBlock=some b) w w1:=by
        refine ⟨j+1,_,by omega,rfl,by rw [zAt];exact Hlen.out,fun x hx=>?_,fun x hx=>?_,hC',hk'⟩
        · rw [hget];by_cases cx:x=k
          · subst cx;rw [zBx rfl,HCr.out,HCp.out]
          rw [zBw cx];refine Hd1.out x ?_;rw [zAv,Hkj.out] at hx;simp at hx;rcases hx with hx | hx;exact hx;exact absurd hx cx
        · rw [hget];have hxk:x≠k:=fun e=>by subst e;have hd:ks.drop j=x::ks.drop (j+1):=(by have hjl:j < ks.length:=(by rw [Hn.out];exact hlt);rw [zAx hjl];have h9:=Hkj.out;rw [zAa hjl] at h9;injection h9 with h9;rw [h9]);have hnd:=(List.drop_sublist j ks).nodup Hnd.out;rw [hd,List.nodup_cons] at hnd;exact hnd.1 hx
          rw [zBw hxk];exact Hd2.out x (List.mem_of_mem_drop (by rw [<-List.drop_drop] at hx;exact hx:x∈(ks.drop j).drop 1))
    have Hrel:=lhd hrel;clear hC' hk' hget hrel hk1 hl1 d1 d2;go_wp2_with fail;go_roundw
    case rel=>exact Hrel.out
    case measure=>simp [intOf];omega
  · obtain rfl:j=n:=oM;obtain ⟨Hp,Hk,Hd1⟩:=hqq3 hp hk hd1;clear hp hk hd1 hd2;go_wp2_with fail;go_end0;refine ⟨rfl,Hk.out,Cj,hlen,fun k hk=>Hd1.out k ?_,Hp.out⟩;rw [zAg (by rw [Hn.out];exact zAs _)];exact hk
end Go.Proofs.YtnhmjomhloainaaGreatDoor
