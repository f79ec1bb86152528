/- Lemmas of the walk. Conditions: each its own. -/
import Derived.Test.YthldmddkfbijhaaGreatDoorPsr16
import Derived.Test.YthldmddkfbijhaaGreatDoorPsr17
import Derived.Test.YthldmddkfbijhaaGreatDoorProg
import Derived.Test.YthldmddkfbijhaaGreatDoorShl
import Derived.Test.YthldmddkfbijhaaGreatDoorSht
set_option linter.all false
set_option maxRecDepth 100000
set_option maxHeartbeats 4000000
namespace Go.Proofs.YthldmddkfbijhaaGreatDoor
section
section
variable {S R : List Nat} {N : Nat}
def ush (k p:Nat):Nat:=if p < k then p else p - 1
theorem aHv (k p:Nat):ush k (sh k p)=p:=by
 unfold ush sh
 (repeat' split)<;> omega
theorem aD5 {k p:Nat} (h:p≠k):sh k (ush k p)=p:=by
 unfold ush sh
 (repeat' split)<;> omega
theorem kJ (l:List Nat) {k:Nat} (p:Nat) (h:k < l.length):(aF l k).getD p 0=l.getD (sh k p) 0:=by
 rw [aJ5 l h];unfold sh;split <;> rfl
theorem aJ4 (h:EndOk S (N+1)) {at_:Nat} (ha:at_<=N):EndOk (aF S at_) N:=by
 obtain ⟨e1,e2,e3⟩:=h;have hl:=cZ S (k:=at_) oM;refine ⟨by omega,?_,fun p hp=>?_⟩;rw [kJ _ _ oM];unfold sh;rw [zBw oM];exact e2
 · rw [kJ _ _ oM];refine e3 _ ?_;unfold sh;split <;> omega
theorem aBu (hp:R.Perm (List.range (N+1+1))) {at_:Nat} (ha:at_<=N):(at_::aF R (ro R at_)).Perm R/\(aF R (ro R at_)).Nodup/\(∀q∈R,q≠at_->(aF R (ro R at_))[bC (ro R q) (ro R at_)]?=some q)/\∀q,q∈aF R (ro R at_)↔q∈R/\q≠at_:=by
 have hn:R.Nodup:=hp.nodup_iff.2 List.nodup_range;have hm:at_∈R:=hp.mem_iff.2 (zCj.2 oM);have hg:=cC hm;have hlt:=(zAc.1 hg).1;have hperm:=eL hg;have hnd:=hperm.nodup_iff.2 hn;rw [List.nodup_cons] at hnd;refine ⟨hperm,hnd.2,fun q hq hqa=>?_,fun q=>?_⟩;have hgq:=cC hq;have hne:ro R q≠ro R at_:=fun e=>hqa (eV hq hm e);rw [dX _ hlt];unfold bC;by_cases c:ro R at_ < ro R q;rw [zBx c,zBw oM,show ro R q - 1+1=ro R q by omega];exact hgq;rw [zBw c,zBx oM];exact hgq;constructor;intro h;exact ⟨hperm.mem_iff.1 (List.mem_cons_of_mem _ h),fun e=>hnd.1 (e ▸ h)⟩;rintro ⟨h1,h2⟩;rcases List.mem_cons.1 (hperm.mem_iff.2 h1) with h | h;exact absurd h h2;exact h
theorem aH4 (hp:R.Perm (List.range (N+1+1))) {at_:Nat} (ha:at_<=N):((aF R (ro R at_)).map (ush at_)).Perm (List.range (N+1))/\∀p,p<=N->ro ((aF R (ro R at_)).map (ush at_)) p=bC (ro R (sh at_ p)) (ro R at_):=by
 obtain ⟨h1,h2,h3,h4⟩:=aBu hp ha;have hnd:((aF R (ro R at_)).map (ush at_)).Nodup:=by refine List.pairwise_map.2 (h2.imp_of_mem fun {a b} ha' hb' hab e=>hab ?_);have e1:=aD5 (k:=at_) ((h4 a).1 ha').2;have e2:=aD5 (k:=at_) ((h4 b).1 hb').2;rw [<-e1,<-e2,e]
 have hmr:∀p,p<=N->sh at_ p∈R:=fun p hp'=>hp.mem_iff.2 (zCj.2 (by unfold sh;split <;> omega));refine ⟨(List.perm_ext_iff_of_nodup hnd List.nodup_range).2 fun q=>?_,fun p hpN=>?_⟩
 · rw [zAy,zCj];constructor
   · rintro ⟨a,ha',rfl⟩;have:=zCj.1 (hp.mem_iff.1 ((h4 a).1 ha').1);have:=((h4 a).1 ha').2;unfold ush;split <;> omega
   intro hq;exact ⟨sh at_ q,(h4 _).2 ⟨hmr q oM,aAB _ _⟩,aHv _ _⟩
 · refine fW hnd ?_;rw [zAf,h3 _ (hmr p hpN) (aAB _ _)];show some (ush at_ (sh at_ p))=some p;rw [aHv]
theorem aIu (h0:IsSuf S R) (he:EndOk S (N+1)) {at_:Nat} (ha:at_<=N):Near (aF S at_) ((aF R (ro R at_)).map (ush at_)) N at_:=by
 have h:=h0.near he;have hS:=he.len;obtain ⟨g1,g2⟩:=aH4 h.perm ha;have hm:∀p,p<=N+1->p∈R:=fun p hp=>h.mem.2 hp;have hsh:∀p,p<=N->sh at_ p<=N+1:=fun p hp=>by unfold sh;split <;> omega
 have hord:∀p q,p<=N->q<=N->(ro ((aF R (ro R at_)).map (ush at_)) p < ro ((aF R (ro R at_)).map (ush at_)) q↔ro R (sh at_ p) < ro R (sh at_ q)):=fun p q hp hq=>by rw [g2 p hp,g2 q hq];have n1:ro R (sh at_ p)≠ro R at_:=fun e=>aAB _ _ (eV (hm _ (hsh p hp)) (hm at_ oM) e);have n2:ro R (sh at_ q)≠ro R at_:=fun e=>aAB _ _ (eV (hm _ (hsh q hq)) (hm at_ oM) e);unfold bC;split <;> split <;> omega
 refine ⟨aJ4 he ha,g1,fun p q hp hq hlt=>?_,fun p q hp hq hpq hpi hqi=>?_⟩;rw [kJ _ _ oM,kJ _ _ oM];exact h.first _ _ (hsh p hp) (hsh q hq) ((hord p q hp hq).1 hlt)
 · have hne:sh at_ p≠sh at_ q:=fun e=>hpq (aD6 e);rw [hord p q hp hq,h.cons _ _ (hsh p hp) (hsh q hq) hne oM oM];unfold tQ;rw [kJ _ _ oM,kJ _ _ oM];by_cases ce:S.getD (sh at_ p) 0=S.getD (sh at_ q) 0
   · by_cases cz:S.getD (sh at_ p) 0=0;have hz:∀x,x<=N+1->S.getD x 0=0->x=N+1:=fun x hx hx0=>Nat.le_antisymm hx (zCr.1 fun hl=>by have:=he.pos x hl;omega);have x1:=hz _ (hsh p hp) cz;have x2:=hz _ (hsh q hq) oM;omega
     · have hs:∀x,x<=N->x+1≠at_->S.getD (sh at_ x) 0≠0->x < N/\sh at_ x+1=sh at_ (x+1):=fun x hx hxa hx0=>by have h1:sh at_ x≠N+1:=fun e=>hx0 (by rw [e];exact he.last);have h2:x < N:=(by rcases zBe x N with h3 | h3;exact h3;exfalso;apply h1;unfold sh;rw [zBw oM];omega);refine ⟨h2,?_⟩;unfold sh;split <;> split <;> omega
       obtain ⟨a1,a2⟩:=hs p hp hpi cz;obtain ⟨b1,b2⟩:=hs q hq hqi oM;rw [a2,b2,hord (p+1) (q+1) oM oM]
   omega
theorem aGv (hp:R.Perm (List.range (N+1+1))) (he:EndOk S (N+1)) {at_:Nat} (ha:at_<=N):aE (aF S at_) ((aF R (ro R at_)).map (ush at_))=aF ((aE S R).set (ro R (at_+1)) (bL S at_)) (ro R at_):=by
 have hn:R.Nodup:=hp.nodup_iff.2 List.nodup_range;have hS:=he.len;have hl:=cZ S (k:=at_) oM;have hmem:∀p,p∈R->p<=N+1:=fun p hpm=>by have:=zCj.1 (hp.mem_iff.1 hpm);omega
 have hat:at_∈R:=hp.mem_iff.2 (zCj.2 oM);have hat1:at_+1∈R:=hp.mem_iff.2 (zCj.2 oM);have hlt:=(zAc.1 (cC hat)).1;have hpv:∀p,p<=N+1->p≠at_->bL (aF S at_) (ush at_ p)=if p=at_+1 then bL S at_ else bL S p:=fun p hp' hpa=>by
  by_cases c:p=at_+1
  · subst c;rw [zBx rfl,show ush at_ (at_+1)=at_ by unfold ush;rw [zBw oM];omega];rcases at_ with _ | a;rw [bQ oM,bQ oM,kJ _ _ oM];unfold sh;rw [zBw oM];congr 1;omega
    · rw [bE oM,bE oM,kJ _ _ oM];unfold sh;rw [zBx oM]
  · rw [zBw c];rcases p with _ | p;rw [show ush at_ 0=0 by unfold ush;split <;> omega,bQ oM,bQ oM,kJ _ _ oM];unfold sh;rw [zBw oM];congr 1;omega
    · by_cases c2:p+1 < at_
      · rw [show ush at_ (p+1)=p+1 by unfold ush;rw [zBx c2],bE oM,bE oM,kJ _ _ oM];unfold sh;rw [zBx oM]
      · obtain ⟨x,rfl⟩:∃x,p=x+1:=⟨p - 1,by omega⟩;rw [show ush at_ (x+1+1)=x+1 by unfold ush;rw [zBw c2];omega,bE oM,bE oM,kJ _ _ oM];unfold sh;rw [zBw oM]
 unfold aE;rw [zCh];apply List.ext_getElem?;intro j;have hlt2:ro R at_ < ((R.map (bL S)).set (ro R (at_+1)) (bL S at_)).length:=by simpa using hlt
 rw [zAf,dX _ hlt,dX _ hlt2];have key:∀i,i≠ro R at_->Option.map (bL (aF S at_)∘ ush at_) R[i]?=((R.map (bL S)).set (ro R (at_+1)) (bL S at_))[i]?:=fun i hi=>by
  rw [zBm,zAf];cases hg:R[i]? with
  | none=>
    have:¬ro R (at_+1)=i:=fun e=>by rw [<-e,cC hat1] at hg;cases hg
    rw [zBw this];rfl
  | some p=>
    have hpm:=zAd hg;have hri:=fW hn hg;have hpa:p≠at_:=fun e=>hi (by rw [<-hri,e]);show some (bL (aF S at_) (ush at_ p))=_;rw [hpv p (hmem p hpm) hpa];by_cases c:p=at_+1
    · subst c;rw [zBx rfl,zBx hri,zBx (by rw [hri];simpa using (zAc.1 hg).1)]
    rw [zBw c,zBw (fun e=>c ?_)];rfl;rw [<-e,cC hat1] at hg;injection hg with hg;exact hg.symm
 by_cases c:j < ro R at_;rw [zBx c,zBx c];exact key j oM;rw [zBw c,zBw c];exact key (j+1) oM
theorem aHC {l:List Nat} {k b s:Nat} (hk:k < l.length) (hkb:k≠b):((aF (l.set b s) k).take (bC b k)).count s+(if k < b/\l.getD k 0=s then 1 else 0)=(l.take b).count s:=by
 have hset:(l.set b s).take b=l.take b:=by
  apply List.ext_getElem?;intro j;rw [zBs,zBs];split
  · rw [zBm,zBw oM]
  rfl
 unfold bC;by_cases c:k < b
 · rw [zBx c];have e1:(aF (l.set b s) k).take (b - 1)=aF (l.take b) k:=(by unfold aF;have hl:((l.set b s).take k).length=k:=(by rw [zAj,zAt];omega);rw [List.take_append,hl,List.take_take,Nat.min_eq_right oM,<-hset,List.take_take,zCt oM,List.drop_take];congr 2;omega);rw [e1];have hkl:k < (l.take b).length:=(by rw [zAj];omega);have hg:(l.take b)[k]?=some (l.getD k 0):=(by rw [zBs,zBx c,zAb,zAa hk];rfl);have:=(eL hg).count_eq s;rw [<-this,List.count_cons];by_cases ce:l.getD k 0=s
   · simp [c,ce]
   · simp [c,ce]
 · rw [zBw c,zBw oM,zBq];unfold aF;have hl:((l.set b s).take k).length=k:=(by rw [zAj,zAt];omega);rw [List.take_append,hl,show b - k=0 by omega,List.take_zero,List.append_nil,List.take_take,zCt oM,hset]
end
section
variable {S R : List Nat} {N : Nat}
theorem aJD (h:EndOk S N) {at_ s:Nat} (ha:at_ < N) (hs:0 < s):EndOk (S.set at_ s) N:=by
 obtain ⟨e1,e2,e3⟩:=h;have hg:∀j,(S.set at_ s).getD j 0=if at_=j/\j < S.length then s else S.getD j 0:=fun j=>by
  rw [zAb,zBm,zAb];by_cases c:at_=j
  · subst c;by_cases c2:at_ < S.length
    · simp [c2]
    · simp [c2]
  · simp [c]
 refine ⟨by rw [zAt,e1],?_,fun p hp=>?_⟩
 · rw [hg,zBw oM,e2]
 rw [hg];split;exact hs;exact e3 p hp
theorem aHU (S:List Nat) {at_ s:Nat} (ha:at_ < S.length) (j:Nat):(S.set at_ s).getD j 0=if j=at_ then s else S.getD j 0:=by
 rw [zAb,zBm,zAb];by_cases c:j=at_
 · subst c;simp [ha]
 · rw [zBw (fun e=>c e.symm),zBw c]
def KS (S R:List Nat) (at_ s q:Nat):Bool:=decide (S.getD q 0 < s∨(S.getD q 0=s/\ro R (q+1) < ro R (at_+1)))
theorem aCK (h0:IsSuf S R) (he:EndOk S (N+1)) {at_ s:Nat} (ha:at_<=N) (hs:0 < s) {row:Nat} (hle:row<=N+1)
 (H1:∀q,q<=N+1->q≠at_->q+1≠at_->(bC (ro R q) (ro R at_) < row↔KS S R at_ s q=true))
 (H2:∀q,q+1=at_->(bC (ro R q) (ro R at_) < row->S.getD q 0<=s)/\(row<=bC (ro R q) (ro R at_)->s<=S.getD q 0)):
 Near (S.set at_ s) (aU (aF R (ro R at_)) row at_) (N+1) at_:=by
 have h:=h0.near he;have hS:=he.len;have hn:=h.nodup;have hm:∀p,p<=N+1->p∈R:=fun p hp=>h.mem.2 hp;have hl:=h.len;have hne:∀p q,p<=N+1->q<=N+1->p≠q->ro R p≠ro R q:=fun p q hp hq hpq e=>hpq (eV (hm p hp) (hm q hq) e);obtain ⟨m1,m2,m3⟩:=vQ hn (t:=row) (cC (hm at_ oM)) oM;obtain ⟨R',hR'⟩:∃R',aU (aF R (ro R at_)) row at_=R':=⟨_,rfl⟩;rw [hR'] at m1 m2 m3⊢;have hord:∀p q,p<=N+1->q<=N+1->p≠at_->q≠at_->(ro R' p < ro R' q↔ro R p < ro R q):=fun p q hp hq hpa hqa=>by rw [m3 p (hm p hp) hpa,m3 q (hm q hq) hqa];have h1:=hne p at_ hp oM hpa;have h2:=hne q at_ hq oM hqa;unfold inR bC;split <;> split <;> split <;> split <;> omega
 have hbef:∀p,p<=N+1->p≠at_->(ro R' p < ro R' at_↔bC (ro R p) (ro R at_) < row):=fun p hp hpa=>by rw [m2,m3 p (hm p hp) hpa];unfold inR;split <;> omega
 have haft:∀p,p<=N+1->p≠at_->(ro R' at_ < ro R' p↔¬bC (ro R p) (ro R at_) < row):=fun p hp hpa=>by rw [m2,m3 p (hm p hp) hpa];unfold inR;split <;> omega
 have hg:=aHU S (s:=s) (show at_ < S.length by omega);refine ⟨aJD he oM hs,m1.trans h.perm,fun p q hp hq hlt=>?_,fun p q hp hq hpq hpi hqi=>?_⟩;rw [hg,hg];by_cases cp:p=at_;subst cp;rw [zBx rfl];by_cases cq:q=p;rw [zBx cq];exact zAs _;rw [zBw cq];have h1:=(haft q hq cq).1 hlt;by_cases c1:q+1=p;exact (H2 q c1).2 oM;have:=H1 q hq cq c1;unfold KS at this;rw [zCa] at this;omega;rw [zBw cp];by_cases cq:q=at_;subst cq;rw [zBx rfl];have h1:=(hbef p hp cp).1 hlt;by_cases c1:p+1=q;exact (H2 p c1).1 h1;have:=(H1 p hp cp c1).1 h1;unfold KS at this;rw [zCa] at this;omega;rw [zBw cq];exact h.first p q hp hq ((hord p q hp hq cp cq).1 hlt)
 · have hlt2:∀x,x<=N+1->S.getD x 0≠0->x < N+1:=fun x hx hx0=>Nat.lt_of_le_of_ne hx fun e=>by subst e;exact hx0 he.last
   unfold tQ;rw [hg,hg];by_cases cp:p=at_;subst cp;have cq:q≠p:=fun e=>hpq e.symm;rw [zBx rfl,zBw cq,haft q hq cq,H1 q hq cq oM];unfold KS;rw [zCa];by_cases ce:S.getD q 0=s;have hqN:=hlt2 q hq oM;rw [hord (p+1) (q+1) oM oM oM oM];have:=hne (q+1) (p+1) oM oM oM;omega;omega
   · rw [zBw cp];by_cases cq:q=at_
     · subst cq;rw [zBx rfl,hbef p hp cp,H1 p hp cp oM];unfold KS;rw [zCa];by_cases ce:S.getD p 0=s
       · have hpN:=hlt2 p hp oM;rw [hord (p+1) (q+1) oM oM oM oM]
       omega
     · rw [zBw cq,hord p q hp hq cp cq,h.cons p q hp hq hpq oM oM];unfold tQ;by_cases ce:S.getD p 0=S.getD q 0
       · by_cases cz:S.getD p 0=0;have x1:p=N+1:=Nat.le_antisymm hp (zCr.1 fun hl=>by have:=he.pos p hl;omega);have x2:q=N+1:=Nat.le_antisymm hq (zCr.1 fun hl=>by have:=he.pos q hl;omega);omega
         · have hpN:=hlt2 p hp cz;have hqN:=hlt2 q hq oM;rw [hord (p+1) (q+1) oM oM oM oM]
       omega
theorem aKP (h0:IsSuf S R) (he:EndOk S (N+1)) {at_ s:Nat} (ha:at_<=N):(∀q,q<=N+1->q≠at_->(bC (ro R q) (ro R at_) < (aF R (ro R at_)).countP (KS S R at_ s)↔KS S R at_ s q=true))/\(aF R (ro R at_)).countP (KS S R at_ s)<=N+1:=by
 have h:=h0.near he;have hn:=h.nodup;have hm:∀p,p<=N+1->p∈R:=fun p hp=>h.mem.2 hp;obtain ⟨d1,d2,d3,d4⟩:=aBu h.perm ha;have hne:∀p q,p<=N+1->q<=N+1->p≠q->ro R p≠ro R q:=fun p q hp hq hpq e=>hpq (eV (hm p hp) (hm q hq) e);have rx:∀ {a x:Nat},(aF R (ro R at_))[a]?=some x->x<=N+1/\x≠at_/\a=bC (ro R x) (ro R at_):=fun {a x} hx=>by have hxm:=(d4 x).1 (zAd hx);refine ⟨h.mem.1 hxm.1,hxm.2,?_⟩;have h5:=d3 x hxm.1 hxm.2;obtain ⟨ha1,ha2⟩:=zAc.1 hx;obtain ⟨hb1,hb2⟩:=zAc.1 h5;rcases Nat.lt_trichotomy a (bC (ro R x) (ro R at_)) with q | q | q;exact absurd (by rw [ha2,hb2]) (zAr.1 d2 _ _ ha1 hb1 q);exact q;exact absurd (by rw [ha2,hb2]) (zAr.1 d2 _ _ hb1 ha1 q)
 have hpw:(aF R (ro R at_)).Pairwise fun p q=>KS S R at_ s q=true->KS S R at_ s p=true:=by
  rw [zAr];intro a b ha' hb hab hkb;obtain ⟨x,hx⟩:=eqx ((aF R (ro R at_))[a]);obtain ⟨y,hy⟩:=eqx ((aF R (ro R at_))[b]);have hda:(aF R (ro R at_))[a]?=some x:=by rw [zAa ha',hx]
  have hdb:(aF R (ro R at_))[b]?=some y:=by rw [zAa hb,hy]
  rw [hx];rw [hy] at hkb;obtain ⟨x1,x2,x3⟩:=rx hda;obtain ⟨y1,y2,y3⟩:=rx hdb;have hxa:=hne x at_ x1 oM x2;have hya:=hne y at_ y1 oM y2;have hlt:ro R x < ro R y:=by unfold bC at x3 y3;split at x3 <;> split at y3 <;> omega
  have hxy:x≠y:=fun e=>by subst e;omega
  have hc:=(h.cons x y x1 y1 hxy oM oM).1 hlt;unfold tQ at hc;unfold KS at hkb⊢;rw [zCa] at hkb⊢;omega
 refine ⟨fun q hq hqa=>(aBf hpw _ _ (d3 q (hm q hq) hqa)).symm,?_⟩;have h1:=zBh (p:=KS S R at_ s) (l:=aF R (ro R at_));have h2:=d1.length_eq;rw [zCg,h.len] at h2;omega
theorem aKQ (h0:IsSuf S R) (he:EndOk S (N+1)) {at_ s:Nat} (ha:at_<=N) (hs:0 < s):(aF R (ro R at_)).countP (KS S R at_ s)+(if S.getD at_ 0 < s then 1 else 0)=(aE S R).countP (fun x=>decide (x < s))+(((aF ((aE S R).set (ro R (at_+1)) s) (ro R at_)).take (bC (ro R (at_+1)) (ro R at_))).count s+if ro R at_ < ro R (at_+1)/\bL S at_=s then 1 else 0):=by
 have h:=h0.near he;have hn:=h.nodup;have hm:∀p,p<=N+1->p∈R:=fun p hp=>h.mem.2 hp;obtain ⟨d1,d2,d3,d4⟩:=aBu h.perm ha;have hga:=cC (hm at_ oM);have hka:ro R at_ < (aE S R).length:=by rw [bU];exact (zAc.1 hga).1
 have hkb:ro R at_≠ro R (at_+1):=fun e=>by have:=eV (hm at_ oM) (hm (at_+1) oM) e;omega
 have hLk:(aE S R).getD (ro R at_) 0=bL S at_:=by unfold aE;rw [zAb,zAf,hga];rfl
 have hto:=aHC (s:=s) hka hkb;rw [hLk] at hto;rw [hto];have hnar:=rJ he h.perm hs (ro R (at_+1));unfold cJ at hnar;rw [hnar];unfold aBn;rw [<-h.perm.countP_eq,<-d1.countP_eq,zBn];have e1:(aF R (ro R at_)).countP (fun p=>decide (S.getD p 0 < s∨(S.getD p 0=s/\ro R (p+1) < ro R (at_+1))))=(aF R (ro R at_)).countP (KS S R at_ s):=rfl;rw [e1];congr 1;by_cases c:S.getD at_ 0 < s
 · rw [zBx c,zBx (zBz (.inl c))]
 rw [zBw c,zBw];rw [zCa];omega
theorem aJC (h0:IsSuf S R) (he:EndOk S (N+1)) {at_ s:Nat} (ha:at_<=N) (hs:0 < s) {n0 row:Nat} {a:Int} (hav:a=if at_=0 then -1 else ((bC (ro R (at_ - 1)) (ro R at_):Nat):Int))
 (hn0:n0+(if S.getD at_ 0 < s then 1 else 0)=(aE S R).countP (fun x=>decide (x < s))+((aF ((aE S R).set (ro R (at_+1)) s) (ro R at_)).take (bC (ro R (at_+1)) (ro R at_))).count s)
 (hrow:row=if bL S at_=s/\a<=(n0:Int) then n0+1 else n0):
 row<=N+1/\Near (S.set at_ s) (aU (aF R (ro R at_)) row at_) (N+1) at_:=by
 have h:=h0.near he;have hm:∀p,p<=N+1->p∈R:=fun p hp=>h.mem.2 hp;have hS:=he.len;have hne:∀p q,p<=N+1->q<=N+1->p≠q->ro R p≠ro R q:=fun p q hp hq hpq e=>hpq (eV (hm p hp) (hm q hq) e);obtain ⟨k1,k2⟩:=aKP (s:=s) h0 he ha;have hc:=aKQ h0 he ha hs;obtain ⟨nA,hnA⟩:∃x,(aF R (ro R at_)).countP (KS S R at_ s)=x:=⟨_,rfl⟩;rw [hnA] at k1 k2 hc;have hrel:n0+(if ro R at_ < ro R (at_+1)/\bL S at_=s then 1 else 0)=nA:=oM;have hcase:(row=nA)∨(∃q,q+1=at_/\S.getD q 0=s/\bC (ro R q) (ro R at_)=nA/\row=nA+1):=by
  by_cases co:bL S at_=s
  · have h1:at_≠0:=fun e=>by subst e;rw [bQ oM,hS,zBb,he.last] at co;omega
    obtain ⟨q,rfl⟩:∃q,at_=q+1:=⟨at_ - 1,by omega⟩;rw [bE oM] at co;rw [zBw h1,zBb] at hav;have hq:=k1 q oM oM;unfold KS at hq;rw [zCa,co] at hq;rw [bE oM,co] at hrel hrow;by_cases cb:ro R (q+1) < ro R (q+1+1);left;rw [zBx ⟨cb,rfl⟩] at hrel;have:bC (ro R q) (ro R (q+1)) < nA:=hq.2 (.inr ⟨rfl,cb⟩);rw [zBx ⟨rfl,by omega⟩] at hrow;omega
    · rw [zBw (fun e=>cb e.1)] at hrel;have hge:¬bC (ro R q) (ro R (q+1)) < nA:=fun e=>by rcases hq.1 e with e1 | e1;omega;exact cb e1.2
      by_cases ce:bC (ro R q) (ro R (q+1))=nA;right;rw [zBx ⟨rfl,by omega⟩] at hrow;exact ⟨q,rfl,co,ce,by omega⟩;left;rw [zBw (fun e=>ce oM)] at hrow;omega
  left;rw [zBw (fun e=>co e.2)] at hrel;rw [zBw (fun e=>co e.1)] at hrow;omega
 have hpos:∀p q,p<=N+1->q<=N+1->p≠at_->q≠at_->p≠q->bC (ro R p) (ro R at_)≠bC (ro R q) (ro R at_):=fun p q hp hq hpa hqa hpq=>by have n1:=hne p at_ hp oM hpa;have n2:=hne q at_ hq oM hqa;have n3:=hne p q hp hq hpq;unfold bC;split <;> split <;> omega
 rcases hcase with rfl |⟨q,hq1,hq2,hq3,rfl⟩;refine ⟨k2,aCK h0 he ha hs k2 (fun p hp hpa _=>k1 p hp hpa) (fun p hpa=>?_)⟩;have:=k1 p oM oM;unfold KS at this;rw [zCa] at this;omega;have hlt:bC (ro R q) (ro R at_) < N+1:=(by have h1:=(zAc.1 (cC (hm q oM))).1;have h2:=(zAc.1 (cC (hm at_ oM))).1;rw [h.len] at h1 h2;have:=hne q at_ oM oM oM;unfold bC;split <;> omega);refine ⟨by omega,aCK h0 he ha hs oM (fun p hp hpa hpi=>?_) (fun p hpa=>?_)⟩;rw [<-k1 p hp hpa];have:=hpos p q hp oM hpa oM oM;omega;obtain rfl:p=q:=oM;omega
theorem aGt (hp:R.Perm (List.range (N+1+1))) (he:EndOk S (N+1)) {at_ s row:Nat} (ha:at_<=N):aE (S.set at_ s) (aU (aF R (ro R at_)) row at_)=aU (aF ((aE S R).set (ro R (at_+1)) s) (ro R at_)) row (bL S at_):=by
 have hn:R.Nodup:=hp.nodup_iff.2 List.nodup_range;have hS:=he.len;have hmem:∀p,p∈R->p<=N+1:=fun p hpm=>by have:=zCj.1 (hp.mem_iff.1 hpm);omega
 have hat1:at_+1∈R:=hp.mem_iff.2 (zCj.2 oM);have hg:=aHU S (s:=s) (show at_ < S.length by omega);have hpv:∀p,p<=N+1->bL (S.set at_ s) p=if p=at_+1 then s else bL S p:=fun p hp'=>by
  rcases p with _ | p
  · rw [zBw oM,bQ (by rw [zAt];omega),bQ oM,zAt,hg,zBw oM]
  · rw [bE (by rw [zAt];omega),bE oM,hg];by_cases c:p=at_
    · rw [zBx c,zBx oM]
    · rw [zBw c,zBw oM]
 unfold aE;rw [nT,rX,hpv at_ oM,zBw oM];congr 2;apply List.ext_getElem?;intro j;rw [zAf,zBm,zAf];cases hgj:R[j]? with
 | none=>
   have:¬ro R (at_+1)=j:=fun e=>by rw [<-e,cC hat1] at hgj;cases hgj
   rw [zBw this];rfl
 | some p=>
   have hpm:=zAd hgj;have hrj:=fW hn hgj;show some (bL (S.set at_ s) p)=_;rw [hpv p (hmem p hpm)];by_cases c:p=at_+1
   · subst c;rw [zBx rfl,zBx hrj,zBx (by rw [hrj];simpa using (zAc.1 hgj).1)]
   rw [zBw c,zBw (fun e=>c ?_)];rfl;rw [<-e,cC hat1] at hgj;injection hgj with hgj;exact hgj.symm
end
end
section
open Go.RowKit
def aKq (x:Value) (w:World):Nat:=match x with
 | .pointer (some a)=>match w.cell? a with
   | some v=>(intOf v+1).toNat
   | none=>0
 | _=>0
theorem aCO {w:World} {a:Addr} {z:Int} (h:w.cell? a=some (.int .i64 z)):aKq (.pointer (some a)) w=(z+1).toNat:=by
 show (match w.cell? a with | some v=>(intOf v+1).toNat | none=>0)=_;rw [h];rfl
theorem yG (B gv:Nat) (L:List Nat) (r j s:Nat) (w:World) (h:WaveAt w B gv L) (hr:L[r]?=some s) (hj:(L.take r).count s=j) (hL:∀x∈L,x < 257) (hn:L.length<=1000) (hT:TabW w) (hB0:1 < B):
 Calls Tryz.prog 152 #[gv,(j:Int),(s:Int)] w fun e w'=>e=.returned (.int .i64 (r:Int))/\VB B w w':=by
 have hrl:=(zAc.1 hr).1;have hrs:=(zAc.1 hr).2;have hs:s < 257:=by rw [<-hrs];exact hL _ (zBj hrl)
 have hcnt:(L.take r).count s < L.count s:=by
  have h1:L.count s=(L.take (r+1)).count s+(L.drop (r+1)).count s:=by rw [<-zCc,zAu]
  have h2:(L.take (r+1)).count s=(L.take r).count s+1:=by rw [zAv,hr,zCc];simp
  omega
 have h90:=lV L r s (zCm hrl) hL hs;have h99:=aAQ L r s;rw [hj] at h99 hcnt;have hat:∀lv,(aL L lv (bG s lv))[fU L r s lv]?=some (gO s lv):=fun lv=>by have:=aBD L r lv hrl;rw [hrs] at this;exact this
 have hwA:=h;obtain ⟨hBg,S,v,hb,hrows⟩:=h;obtain ⟨n,hnn⟩:=eqx L.length;have hqq:(L.take n).count s=L.count s:=by rw [<-hnn,List.take_length]
 obtain ⟨q,hq⟩:=eqx (L.count s);rw [hq] at hqq hcnt;rw [hnn] at hb hrl;have hlt:=hb.lt;have hj0:decide ((j:Int) < 0)=false:=by simp
 have hbel:=((Below.refl w.heap.size w).alloc nL (.cells #[(j:Int)] 3)).alloc (by simp) (.cells #[(s:Int)] 3);have hg4:=(Bk.new w 3 #[(j:Int)]).alloc (.cells #[(s:Int)] 3);have hg5:=Bk.new (w.alloc (.cells #[(j:Int)] 3)) 3 #[(s:Int)];rw [World.size_alloc] at hg5;obtain ⟨W,hW⟩:∃x,(w.alloc (.cells #[(j:Int)] 3)).alloc (.cells #[(s:Int)] 3)=x:=⟨_,rfl⟩;obtain ⟨g4,hg4e⟩:∃x,w.heap.size=x:=⟨_,rfl⟩;obtain ⟨g5,hg5e⟩:∃x,g4+1=x:=⟨_,rfl⟩;rw [hW] at hbel hg4 hg5;rw [hg4e] at hg4;rw [hg4e,hg5e] at hg5;have l4:=hg4.lt;have l5:=hg5.lt;obtain ⟨Hj9,H0,HwA,Hwb,Hwb0,Hrows,Hat,HL,HN⟩:=hqq9 h99 h90 (hwA.vis (Vis.of_below hbel)) (hb.below hbel hlt) hb hrows hat hL hnn;obtain ⟨Hn1000,Hq,Hjq,HT,Hg4,Hg5,HW,Hbel,He4⟩:=hqq9 hn hqq (show ¬q<=j by omega) hT hg4 hg5 hW hbel hg4e;have He5:=lhd hg5e;clear h99 h90 hwA hb hrows hat hL hnn hqq hq hcnt hj hr hrs hT hg4 hg5 hW hbel hn hrl;go_enter Tryz.func152,Tryz.ntmps152;go_wp2_with fail;rw [HW.out];refine wp_region_any kR ?_;refine aO [8,9,10,11,12,13,14,15,16,17,18,19,20,21,22,23,24] (VB B) (Vs [is gv,is (.bool false),is (.bool false),is (j:Int),is (.bool false),is (.bool false),is (.bool false),is (j:Int),is gv,is gv,is gv,is (.pointer (some ⟨gv,9,none⟩)),is (n:Int),is (s:Int),is (q:Int),is (.bool false),is (.bool false)]) _ _ rfl kR vR (fun _ _=>VisK.trans) (cL tA1) ?_ ?_
 · refine aM ?_;refine pH 0 (.pointer (some ⟨gv,0,none⟩)) ?_;refine pV 0 8 ?_;refine pV 1 9 ?_;refine sG 10 false (fun ev w5 hS _ _ hold _ _ _ _ hK=>?_) ?_
   · have e4:ev (.tmp 4)=.pointer (some ⟨g4,0,none⟩):=hold 4 kR;replace hS:(VB B) W w5:=bD hS;have k5:w5.cell? ⟨g4,0,none⟩=some (.int .i64 (j:Int)):=((hS.1.bk Hg4.out dC dC).cell 0).trans rfl;go_simp;exact hK _ _ vR rfl
   refine sG 10 false (fun _ _ _ _ _ _ hval _ _ _ hK=>?_) ?_
   · have e11:_=_:=hval 3 11 kR rfl;go_simp;exact hK _ _ vR rfl
   refine pW 2 10 4 12 ?_;refine pV 5 13 ?_;refine sG 14 false (fun ev w5 hS _ _ hold _ _ _ _ hK=>?_) ?_
   · have e4:ev (.tmp 4)=.pointer (some ⟨g4,0,none⟩):=hold 4 kR;replace hS:(VB B) W w5:=bD hS;have k5:w5.cell? ⟨g4,0,none⟩=some (.int .i64 (j:Int)):=((hS.1.bk Hg4.out dC dC).cell 0).trans rfl;go_simp;exact hK _ _ vR rfl
   refine sG 14 false (fun ev _ _ _ _ hold _ _ _ _ hK=>?_) ?_
   · have e0:ev (.tmp 0)=.pointer (some ⟨gv,0,none⟩):=hold 0 kR;go_simp;exact hK _ _ vR rfl
   refine sG 14 false (fun ev _ _ _ _ hold _ _ _ _ hK=>?_) ?_
   · have e0:ev (.tmp 0)=.pointer (some ⟨gv,0,none⟩):=hold 0 kR;go_simp;exact hK _ _ vR rfl
   refine sG 14 false (fun _ _ _ _ _ _ hval _ _ _ hK=>?_) ?_
   · have e17:_=_:=hval 9 17 kR rfl;go_simp;exact hK _ _ vR rfl
   refine sG 14 false (fun _ _ _ _ _ _ hval _ _ _ hK=>?_) ?_
   · have e18:_=_:=hval 10 18 kR rfl;go_simp;exact hK _ _ vR rfl
   refine sG 14 false (fun _ w5 hS _ _ _ hval _ _ _ hK=>?_) ?_
   · have e19:_=_:=hval 11 19 kR rfl;replace hS:(VB B) W w5:=bD hS;obtain ⟨v5,hw5⟩:=hS.1.waveC Hwb.out;have c9:w5.cell? ⟨gv,9,none⟩=some (.int .i64 (n:Int)):=(hw5.cell 9).trans (bI S n v5).2.2.2.2.2.2.2.2.2.1;go_simp;exact hK _ _ vR rfl
   refine sG 14 false (fun ev w5 hS _ _ hold _ _ _ _ hK=>?_) ?_
   · have e5:ev (.tmp 5)=.pointer (some ⟨g5,0,none⟩):=hold 5 kR;replace hS:(VB B) W w5:=bD hS;have k5:w5.cell? ⟨g5,0,none⟩=some (.int .i64 (s:Int)):=((hS.1.bk Hg5.out dC dC).cell 0).trans rfl;go_simp;exact hK _ _ vR rfl
   refine sG 14 false (fun _ w5 hS _ _ _ hval _ _ _ hK=>?_) ?_
   · have e16:_=_:=hval 8 16 kR rfl;have e20:_=_:=hval 12 20 kR rfl;have e21:_=_:=hval 13 21 kR rfl;replace hS:(VB B) W w5:=bD hS;go_simp;refine (iG B gv L n s w5 (HwA.out.vis hS.1) hs (Nat.le_of_eq HN.out.symm) HL.out Hn1000.out).mono ?_;rintro e w8 ⟨rfl,hv8⟩;rw [Hq.out];exact hK _ _ hv8 rfl
   refine sG 14 false (fun _ _ _ _ _ _ hval _ _ _ hK=>?_) ?_
   · have e15:_=_:=hval 7 15 kR rfl;have e22:_=_:=hval 14 22 kR rfl;have hjq:=Hjq.out;have hjq2:decide (q<=j)=false:=zBy hjq;go_simp;exact hK _ _ vR rfl
   refine pW 6 14 15 23 ?_;exact aC
 · intro ev w6 hS hval;replace hS:(VB B) W w6:=bD hS;have e24:ev (.tmp 24)=.bool false:=hval 16 24 rfl;simp only [aI,zq1,zq2,Act.put,zq3,zq4,zq5];rw [e24];clear hval;have hvW:VB B w w6:=(VisK.of_below (hg4e ▸ Hbel.out)).trans hS;have hg4:=hS.1.bk Hg4.out dC dC;have hg5:=hS.1.bk Hg5.out dC dC;have hs6:=hS.1.size;obtain ⟨W6,hW6⟩:∃x,x=w6:=⟨_,rfl⟩;subst hW6;have h8:=Bk.new W6 3 #[.int .i64 8];have hg47:=hg4.alloc (.cells #[.int .i64 8] 3);have hg57:=hg5.alloc (.cells #[.int .i64 8] 3);have hv7:=hvW.alloc (.cells #[.int .i64 8] 3);obtain ⟨H8,Hg47,Hg57,Hv7⟩:=hqq4 h8 hg47 hg57 hv7;have hB4:B<=g4:=oM;have hgw:w.heap.size<=W6.heap.size:=hvW.1.size;clear h8 hg47 hg57 hv7 hg4 hg5 hS hvW Hg4 Hg5 hj0;go_wp2_with fail;go_loopw [7] (fun x wr=>∃(g7 m:Nat) (z:Int),m<=9/\z=(m:Int) - 1/\x=.pointer (some ⟨g7,0,none⟩)/\Bk wr g7 3 #[.int .i64 z]/\Bk wr g4 3 #[.int .i64 ((fU L r s m:Nat):Int)]/\Bk wr g5 3 #[(s:Int)]/\VB B w wr/\g5 < g7) (fun x wr=>aKq x wr)
   case atStart=>exact ⟨W6.heap.size,9,8,by omega,by omega,rfl,H8.out,by rw [Hj9.out];exact Hg47.out,Hg57.out,Hv7.out,by omega⟩
   case round=>
    obtain ⟨g7,m9,z,hm9,hz,rfl,hg7,hgk,hg5,hv,hg57⟩:=hrel;have c7:wr.cell? ⟨g7,0,none⟩=some (.int .i64 z):=(hg7.cell 0).trans rfl;rcases m9 with _ | lv
    · have hz0:decide (z>=0)=false:=(by simp;omega);have c4:wr.cell? ⟨g4,0,none⟩=some (.int .i64 ((fU L r s 0:Nat):Int)):=(hgk.cell 0).trans rfl;rw [H0.out] at c4;have Hv:=lhd hv;clear hgk hg5 hg7 hv;go_wp2_with fail;go_ret;exact ⟨rfl,Hv.out⟩
    · obtain rfl:z=(lv:Int):=oM;have hl9:lv < 9:=oM;have hz0:decide ((lv:Int)>=0)=true:=(by simp);obtain ⟨G,hown,htr⟩:=Hrows.out lv hl9;obtain ⟨m,hm⟩:=eqx (2 ^ lv);obtain ⟨p,hp⟩:=eqx (bG s lv);have hpm:p < m:=(by rw [<-hm,<-hp];exact mJ s lv hs oM);rw [hm] at hown htr;obtain ⟨g,cap,hSl,hnc,hgl⟩:=World.ownsRow.form hown oM;rw [hSl] at hown;obtain ⟨x,hx⟩:=eqx (fU L r s lv);obtain ⟨y,hy⟩:=eqx (fU L r s (lv+1));have hxy:=lW L r s lv hl9;have hxa:=Hat.out lv;rw [hp,hx,hy] at hxy;rw [hp,hx] at hxa;rw [hy] at hgk;have hpI:(p:Int) < (m:Int):=oM;have hown2:=hv.1.own hown dC dC;have hgw2:=hown.lt;have hgne:∀b,(Value.slice (some ⟨g,0,none⟩) m cap).ownBlock=some b->b≠g4:=fun b hbo=>by have hgb:g=b:=(by simpa [Value.ownBlock] using hbo);omega
      have Hgne:=lhd hgne;clear hgne;have hwb2:∃v2,Bk wr gv 154 (wcells S n v2):=hv.1.waveC Hwb0.out;obtain ⟨v2,hwb2⟩:=hwb2;have hTr:=HT.out.vb hv hB0 oM;have hwr:=hv.1.size;obtain ⟨Hxy,Hxa,Hown,Htr,Hp,Hx,Hy,Hv,HSl⟩:=hqq9 hxy hxa hown2 (htr p hpm) hp hx hy hv hSl;obtain ⟨Hwb,HTr,Hg7,Hg5,Hgk,C7⟩:=hqq6 hwb2 hTr hg7 hg5 hgk c7;obtain ⟨Wx,hWx⟩:∃x,x=wr:=⟨_,rfl⟩;subst hWx;clear hown htr hSl hm hp hx hy hxy hxa hv hown2 hwb2 hTr hg7 hg5 hgk hz;go_wp2_with fail;refine wp_region_any kR ?_;refine bZ B 14 [29,30,31,32,33,34,35,36,37,38,39,40,41,42] (fun b=>b=g4) 13 [13] (fun w2=>Bk w2 g4 3 #[(y:Int)]) (fun _ w2=>Bk w2 g4 3 #[(x:Int)]) [is gv,is gv,is (lv:Int),is gv,is gv,is (.pointer (some ⟨gv,lv,none⟩)),is (.slice (some ⟨g,0,none⟩) m cap),is (s:Int),is (lv:Int),is (p:Int),is (.pointer (some ⟨g,p*3,none⟩)),is (.agg #[.pointer (some ⟨G p,0,none⟩),(lv:Int),(p:Int)]),is (.func (.func 201) #[] #[g4,g5,g7]),cR] _ _ rfl dC kR kR kR (Hgk.out) (fun w1 w2 h _ k=>k.1.bk h dC dC) (fun _ _ _ h k=>k.1.bk h dC dC) tA1 ?_ ?_
      · refine bM ?_;refine pH3 0 (.pointer (some ⟨gv,0,none⟩)) ?_;refine pH3 0 (.pointer (some ⟨gv,0,none⟩)) ?_;refine sC3 (fun ev w5 hS _ _ _ hold _ _ _ _ hK=>?_) ?_
        · replace hS:VFB B (fun b=>b=g4) Wx w5:=fD hS;have e7:ev (.tmp 7)=.pointer (some ⟨g7,0,none⟩):=hold 7 kR;have k5:w5.cell? ⟨g7,0,none⟩=some (.int .i64 (lv:Int)):=((hS.1.bk Hg7.out dC dC (fun h=>absurd (show g7=g4 from h) oM)).cell 0).trans rfl;go_simp;exact hK _ _ (aK vR) rfl
        refine pV3 1 30 ?_;refine pV3 3 32 ?_;refine sC3 (fun _ _ _ _ _ _ _ hval _ _ _ hK=>?_) ?_
        · have e33:_=_:=hval 4 33 kR rfl;have e31:_=_:=hval 2 31 kR rfl;have hl9I:(lv:Int) < 9:=oM;go_simp;exact hK _ _ (aK vR) rfl
        refine sC3 (fun _ w5 hS _ _ _ _ hval _ _ _ hK=>?_) ?_
        · replace hS:VFB B (fun b=>b=g4) Wx w5:=fD hS;have e34:_=_:=hval 5 34 kR rfl;obtain ⟨v5,hw5⟩:=hS.1.waveC Hwb.out (fun h=>absurd (show gv=g4 from h) oM);have c9:w5.cell? ⟨gv,lv,none⟩=some (.slice (some ⟨g,0,none⟩) m cap):=(hw5.cell lv).trans ((tE S n v5 lv hl9).trans (congrArg some HSl.out));go_simp;exact hK _ _ (aK vR) rfl
        refine sC3 (fun ev w5 hS _ _ _ hold _ _ _ _ hK=>?_) ?_
        · replace hS:VFB B (fun b=>b=g4) Wx w5:=fD hS;have e5:ev (.tmp 5)=.pointer (some ⟨g5,0,none⟩):=hold 5 kR;have k5:w5.cell? ⟨g5,0,none⟩=some (.int .i64 (s:Int)):=((hS.1.bk Hg5.out dC dC (fun h=>absurd (show g5=g4 from h) oM)).cell 0).trans rfl;go_simp;exact hK _ _ (aK vR) rfl
        refine sC3 (fun ev w5 hS _ _ _ hold _ _ _ _ hK=>?_) ?_
        · replace hS:VFB B (fun b=>b=g4) Wx w5:=fD hS;have e7:ev (.tmp 7)=.pointer (some ⟨g7,0,none⟩):=hold 7 kR;have k5:w5.cell? ⟨g7,0,none⟩=some (.int .i64 (lv:Int)):=((hS.1.bk Hg7.out dC dC (fun h=>absurd (show g7=g4 from h) oM)).cell 0).trans rfl;go_simp;exact hK _ _ (aK vR) rfl
        refine sC3 (fun _ w5 _ _ _ _ _ hval _ _ _ hK=>?_) ?_
        · have e36:_=_:=hval 7 36 kR rfl;have e37:_=_:=hval 8 37 kR rfl;go_simp;refine (lC s lv w5 hs oM).mono ?_;rintro e w8 ⟨rfl,hb8⟩;rw [Hp.out];exact hK _ _ (aK (VisK.of_below hb8)) rfl
        refine pW3 6 35 9 38 ?_;refine sC3 (fun _ w5 hS _ _ _ _ hval _ _ _ hK=>?_) ?_
        · replace hS:VFB B (fun b=>b=g4) Wx w5:=fD hS;have e39:_=_:=hval 10 39 kR rfl;have hrow5:=aA Hown.out fun b cs hbo hb=>hS.1.bk hb dC dC (fun h=>absurd (show b=g4 from h) (Hgne.out b hbo));obtain ⟨q0,q1,q2⟩:=fO G lv m p hpm;have a0:w5.cell? ⟨g,p*3,none⟩=_:=(World.ownsRow.cellAt hrow5 (p*3) oM).trans q0;have a1:w5.cell? ⟨g,p*3+1,none⟩=_:=(World.ownsRow.cellAt hrow5 (p*3+1) oM).trans q1;have a2:w5.cell? ⟨g,p*3+2,none⟩=_:=(World.ownsRow.cellAt hrow5 (p*3+2) oM).trans q2;go_simp;exact hK _ _ (aK vR) rfl
        refine sC3 (fun ev _ _ _ _ _ hold _ _ _ _ hK=>?_) ?_
        · have e4:ev (.tmp 4)=.pointer (some ⟨g4,0,none⟩):=hold 4 kR;have e5:ev (.tmp 5)=.pointer (some ⟨g5,0,none⟩):=hold 5 kR;have e7:ev (.tmp 7)=.pointer (some ⟨g7,0,none⟩):=hold 7 kR;go_simp;exact hK _ _ (aK vR) rfl
        refine sC3 (fun _ w5 hS hU _ _ _ hval _ _ _ hK=>?_) ?_
        · replace hS:VFB B (fun b=>b=g4) Wx w5:=fD hS;have hpre:=hU rfl;have e29:_=_:=hval 0 29 kR rfl;have e40:_=_:=hval 11 40 kR rfl;have e41:_=_:=hval 12 41 kR rfl;go_simp;have hvw:Vis w w5:=(VisF.trans (VisF.of_vis Hv.out.1) hS.1).to_vis (fun b hb e=>by have:b=g4:=e;omega);obtain ⟨v5,hw5⟩:∃v5,Bk w5 gv 154 (wcells S n v5):=hvw.waveC Hwb0.out;have hg5:=hS.1.bk Hg5.out dC dC (fun h=>absurd (show g5=g4 from h) oM);have hg7:=hS.1.bk Hg7.out dC dC (fun h=>absurd (show g7=g4 from h) oM);have hT5:TabW w5:=fun j hj=>(hS.2.cell (p:=⟨1,j,none⟩) (by show 1 < Wx.heap.size;omega) (by show ¬(1=g4∨B<=1);omega)).trans (HTr.out j hj);refine (aHe B gv (G p) g4 g5 g7 S n v5 p lv (aL L lv p) x y s w w5 hw5 Htr.out.2 hvw oM hpre hg5 hg7 hl9 hs Hxa.out Hxy.out hT5 hB0 hBg Htr.out.1 oM).mono ?_;rintro e w8 ⟨rfl,hf8,hk8,hb8⟩;exact hK _ _ (kB ⟨hf8,hk8.mono fun b _ h=>.inr h⟩) hb8
        exact aC
      · intro ev w6 f hS hval hall;replace hS:VFB B (fun b=>b=g4) Wx w6:=fD hS;obtain ⟨vJ,pJ0⟩:=hall 13 dC;have pJ:(fun _ w2=>Bk w2 g4 3 #[(x:Int)]) vJ w6:=pJ0;clear pJ0 hall;simp only [aI,zq1,zq2,Act.put,zq3,zq4,zq5];clear hval;change wpAny Tryz.prog Region.Mode.any _ _ (0+f) (bV 14 14) _ w6;refine bK kR ?_;have hg5:=hS.1.bk Hg5.out dC dC (fun h=>absurd (show g5=g4 from h) oM);have hg7:=hS.1.bk Hg7.out dC dC (fun h=>absurd (show g7=g4 from h) oM);have hvn:VB B w w6:=⟨(VisF.trans (VisF.of_vis Hv.out.1) hS.1).to_vis (fun b hb e=>by have:b=g4:=e;omega),Hv.out.2.trans (hS.2.mono fun b _ h=>by rcases h with h | h;(have:b=g4:=h;omega);exact h)⟩;have hs6:=hS.1.size;have c7:w6.cell? ⟨g7,0,none⟩=some (.int .i64 (lv:Int)):=(hg7.cell 0).trans rfl;have l7:=hg7.lt;obtain ⟨Hg5n,Hg4n,Hvn⟩:=hqq3 hg5 pJ hvn;clear hg5 hg7 hvn hS pJ;go_wp2_with fail;refine ⟨⟨w6.heap.size,lv,(lv:Int) - 1,by omega,rfl,rfl,Bk.new _ _ _,by rw [Hx.out];exact Hg4n.out.alloc _,Hg5n.out.alloc _,Hvn.out.alloc _,by omega⟩,?_⟩;have n1:=((Bk.new w6 3 #[.int .i64 ((lv:Int) - 1)]).cell 0);rw [aCO (n1.trans rfl),aCO C7.out];omega
end
end Go.Proofs.YthldmddkfbijhaaGreatDoor
