/- Parts of the walk, joined from several texts. Conditions: what each lemma says. -/
import Derived.Test.YtnhmjomhloainaaGreatDoorPq24
import Derived.Lib.SlBytesConst
set_option linter.all false
set_option maxRecDepth 100000
set_option maxHeartbeats 4000000
namespace Go.Proofs.YtnhmjomhloainaaGreatDoor
theorem aDh {l:List Nat} (hn:l.Nodup) {x:Nat} (hx:x∈l) {f g:Nat->Bool} (h:∀y∈l,y≠x->f y=g y):l.countP f+(if g x then 1 else 0)=l.countP g+(if f x then 1 else 0):=by
 have hp:=List.perm_cons_erase hx;have hn2:=hp.nodup_iff.1 hn;have e:(l.erase x).countP f=(l.erase x).countP g:=List.countP_congr fun y hy=>by rw [h y (List.mem_of_mem_erase hy) (fun e=>(List.nodup_cons.1 hn2).1 (e ▸ hy))]
 rw [hp.countP_eq,hp.countP_eq,zBn,zBn,e];omega
theorem aIi {R:List Nat} (hn:R.Nodup) {y:Nat} (hy:y∈R):R.countP (fun p=>decide (ro R p < ro R y))=ro R y:=by
 have h:=yN hn (ro R y) (fun _=>true);have h2:(R.take (ro R y)).countP (fun _=>true)=(R.take (ro R y)).length:=List.countP_eq_length.2 fun _ _=>rfl;rw [h2,zAj] at h;have hl:ro R y < R.length:=List.idxOf_lt_length_iff.2 hy;rw [Nat.min_eq_left oM] at h;simp only [Bool.true_and] at h;exact h.symm
def aGU (n cur a:Nat):Nat:=let m:=if cur < a then n - 1 else n;if a<=m then m+1 else m
section
variable {S R : List Nat} {N i : Nat}
theorem aGf (h:Near S R N (i+2)) (hi:i+1 < N):(if S.getD (i+1) 0=S.getD i 0 then aGU (cE (aE S R) (S.getD i 0) (ro R (i+1))) (ro R (i+2)) (ro R (i+1)) else cE (aE S R) (S.getD i 0) (ro R (i+1)))=ro R i/\
 (S.getD (i+1) 0=S.getD i 0->ro R (i+2) < ro R (i+1)->0 < cE (aE S R) (S.getD i 0) (ro R (i+1))):=by
 have hn:=h.nodup;have hm:∀p,p<=N->p∈R:=fun p hp=>h.mem.2 hp;have hne:∀p q,p<=N->q<=N->p≠q->ro R p≠ro R q:=fun p q hp hq hpq e=>hpq (gO (hm p hp) (hm q hq) e);have hd:=h.endk.pos i oM;rw [uQ h.endk h.perm hd];have c1:(List.range (N+1)).countP (fun p=>decide (ro R p < ro R i))=ro R i:=by rw [<-h.perm.countP_eq];exact aIi hn (hm i oM)
 have hcons:∀y∈List.range (N+1),y≠i+1->decide (ro R y < ro R i)=decide (S.getD y 0 < S.getD i 0∨(S.getD y 0=S.getD i 0/\ro R (y+1) < ro R (i+1))):=fun y hy hyi=>by rw [zCi] at hy;rw [decide_eq_decide];by_cases hy2:y=i;subst hy2;omega;exact h.cons y i oM oM hy2 oM oM
 have hb:=aDh List.nodup_range (x:=i+1) (by simp;omega) hcons;rw [c1] at hb;unfold aBv;generalize hn0:List.countP (fun p=>decide (S.getD p 0 < S.getD i 0∨(S.getD p 0=S.getD i 0/\ro R (p+1) < ro R (i+1)))) (List.range (N+1))=n0 at hb⊢;have hia:=hne i (i+1) oM oM oM;have hca:=hne (i+2) (i+1) oM oM oM;have f1:=h.first (i+1) i oM oM;have f2:=h.first i (i+1) oM oM;simp only [zCa,show i+1+1=i+2 by omega] at hb;by_cases he:S.getD (i+1) 0=S.getD i 0
 · have e1:(S.getD (i+1) 0 < S.getD i 0∨(S.getD (i+1) 0=S.getD i 0/\ro R (i+2) < ro R (i+1)))↔ro R (i+2) < ro R (i+1):=oM;simp only [e1] at hb;rw [zBx he];unfold aGU;refine ⟨?_,fun _ hlt=>?_⟩
   · by_cases q1:ro R (i+2) < ro R (i+1)
     · rw [zBx q1] at hb;simp only [zBx q1];split at hb <;> split <;> omega
     · rw [zBw q1] at hb;simp only [zBw q1];split at hb <;> split <;> omega
   · rw [zBx hlt] at hb;split at hb <;> omega
 have e1:(S.getD (i+1) 0 < S.getD i 0∨(S.getD (i+1) 0=S.getD i 0/\ro R (i+2) < ro R (i+1)))↔ro R (i+1) < ro R i:=oM;simp only [e1] at hb;rw [zBw he];exact ⟨by omega,fun e=>absurd e he⟩
def sh (k p:Nat):Nat:=if p < k then p else p+1
theorem aCC {k p q:Nat} (h:sh k p=sh k q):p=q:=by unfold sh at h;split at h <;> split at h <;> omega
theorem yP (k p:Nat):sh k p≠k:=by unfold sh;split <;> omega
theorem kQ {k q:Nat} (h:q≠k):∃p,sh k p=q:=by
 by_cases c:q < k;exact ⟨q,by unfold sh;rw [zBx c]⟩;exact ⟨q - 1,by unfold sh;rw [zBw oM];omega⟩
theorem kY (l:List Nat) {k:Nat} (x:Nat) (h:k<=l.length) (j:Nat):(aQ l k x).getD j 0=if j < k then l.getD j 0 else if j=k then x else l.getD (j - 1) 0:=by
 rw [zAb,iB l x h];split
 · rw [zAb]
 · split;rfl
   · rw [zAb]
theorem aHM (l:List Nat) {k:Nat} (h:k < l.length) (j:Nat):(aI l k).getD j 0=if j < k then l.getD j 0 else l.getD (j+1) 0:=by
 rw [zAb,eE l h];split
 · rw [zAb]
 · rw [zAb]
theorem kX (l:List Nat) {k:Nat} (x p:Nat) (h:k<=l.length):(aQ l k x).getD (sh k p) 0=l.getD p 0:=by
 rw [kY l x h];by_cases c:p < k
 · rw [show sh k p=p by unfold sh;rw [zBx c],zBx c]
 · rw [show sh k p=p+1 by unfold sh;rw [zBw c],zBw oM,zBw oM,zBb]
theorem uW (l:List Nat) {k:Nat} (x:Nat) (h:k<=l.length):(aQ l k x).getD k 0=x:=by
 rw [kY l x h,zBw oM,zBx rfl]
theorem aFR {R:List Nat} (hn:R.Nodup) {at_ row:Nat} (hr:row<=R.length):ro (aQ (R.map (sh at_)) row at_) at_=row/\(∀p∈R,ro (aQ (R.map (sh at_)) row at_) (sh at_ p)=inR (ro R p) row)/\(aQ (R.map (sh at_)) row at_).Nodup:=by
 have hl:row<=(R.map (sh at_)).length:=by simpa using hr
 have hnd:(aQ (R.map (sh at_)) row at_).Nodup:=by rw [(fG _ _ _).nodup_iff,List.nodup_cons];refine ⟨fun hm=>?_,List.pairwise_map.2 (hn.imp fun h1 h2=>h1 (aCC h2))⟩;obtain ⟨p,_,e⟩:=zAy.1 hm;exact yP _ _ e
 refine ⟨fJ hnd ?_,fun p hp=>fJ hnd ?_,hnd⟩
 · rw [iB _ _ hl,zBw oM,zBx rfl]
 rw [iB _ _ hl];have hg:=cV hp;unfold inR;by_cases c:row<=ro R p;rw [zBx c,zBw oM,zBw oM,zBb,zAf,hg];rfl;rw [zBw c,zBx oM,zAf,hg];rfl
theorem aHD (h:EndOk S N) {at_ s:Nat} (ha:at_<=N) (hs:0 < s):EndOk (aQ S at_ s) (N+1):=by
 obtain ⟨e1,e2,e3⟩:=h;refine ⟨by rw [eQ _ _ oM,e1],?_,fun p hp=>?_⟩
 · rw [kY _ _ oM,zBw oM,zBw oM,zBb,e2]
 rw [kY _ _ oM];split;exact e3 p oM;split;exact hs;exact e3 _ oM
theorem aF4 {R:List Nat} (hp:R.Perm (List.range (N+1))) {at_:Nat} (row:Nat) (ha:at_<=N):(aQ (R.map (sh at_)) row at_).Perm (List.range (N+1+1)):=by
 refine (List.perm_ext_iff_of_nodup ?_ List.nodup_range).2 fun q=>?_;rw [(fG _ _ _).nodup_iff,List.nodup_cons];refine ⟨fun hm=>?_,List.pairwise_map.2 ((hp.nodup_iff.2 List.nodup_range).imp fun h1 h2=>h1 (aCC h2))⟩;obtain ⟨p,_,e⟩:=zAy.1 hm;exact yP _ _ e
 · rw [(fG _ _ _).mem_iff,List.mem_cons,zAy,zCi];constructor
   · rintro (rfl |⟨p,hpm,rfl⟩);omega
     · have:=zCi.1 (hp.mem_iff.1 hpm);unfold sh;split <;> omega
   · intro hq;by_cases c:q=at_;exact .inl c
     · obtain ⟨p,rfl⟩:=kQ c;refine .inr ⟨p,hp.mem_iff.2 (zCi.2 ?_),rfl⟩;unfold sh at hq c;split at hq <;> omega
theorem aGh (h0:IsSuf S R) (he:EndOk S N) {at_ s:Nat} (ha:at_<=N) (hs:0 < s):cE (aE S R) s (ro R at_)<=R.length/\Near (aQ S at_ s) (aQ (R.map (sh at_)) (cE (aE S R) s (ro R at_)) at_) (N+1) at_:=by
 have h:=h0.near he;have hn:=h.nodup;have hm:∀p,p<=N->p∈R:=fun p hp=>h.mem.2 hp;obtain ⟨row,hrow⟩:=eqx (cE (aE S R) s (ro R at_));have hcnt:R.countP (fun p=>decide (S.getD p 0 < s∨(S.getD p 0=s/\ro R (p+1) < ro R at_)))=row:=by rw [<-hrow,uQ he h.perm hs,h.perm.countP_eq];rfl
 rw [hrow];have hle:row<=R.length:=by rw [<-hcnt];exact zBh
 have hpre:∀p,p<=N->(decide (S.getD p 0 < s∨(S.getD p 0=s/\ro R (p+1) < ro R at_))=true↔ro R p < row):=fun p hp=>by rw [<-hcnt];refine aCR (K:=fun p=>decide (S.getD p 0 < s∨(S.getD p 0=s/\ro R (p+1) < ro R at_))) ?_ _ _ (cV (hm p hp));rw [zAr];intro a b ha' hb hab hk;have ra:ro R R[a]=a:=fJ hn (zAa ha');have rb:ro R R[b]=b:=fJ hn (zAa hb);have hpa:R[a]<=N:=h.mem.1 (zBj ha');have hpb:R[b]<=N:=h.mem.1 (zBj hb);have hc:=(h.cons R[a] R[b] hpa hpb (fun e=>by rw [e,rb] at ra;omega) oM oM).1 oM;unfold xI at hc;rw [zCa] at hk⊢;omega
 obtain ⟨r1,r2,r3⟩:=aFR hn (at_:=at_) hle;have hS:=he.len;refine ⟨hle,aHD he ha hs,aF4 h.perm row ha,fun p q hp hq hlt=>?_,fun p q hp hq hpq hpi hqi=>?_⟩
 · by_cases cp:p=at_
   · subst cp;by_cases cq:q=p;subst cq;omega
     · obtain ⟨q0,rfl⟩:=kQ cq;have hq0:q0<=N:=(by unfold sh at hq;split at hq <;> omega);rw [r1,r2 q0 (hm q0 hq0)] at hlt;rw [uW _ _ oM,kX _ _ _ oM];have hk:=hpre q0 hq0;rw [zCa] at hk;unfold inR at hlt;split at hlt <;> omega
   · obtain ⟨p0,rfl⟩:=kQ cp;have hp0:p0<=N:=(by unfold sh at hp;split at hp <;> omega);by_cases cq:q=at_
     · subst cq;rw [r1,r2 p0 (hm p0 hp0)] at hlt;rw [uW _ _ oM,kX _ _ _ oM];have hk:=hpre p0 hp0;rw [zCa] at hk;unfold inR at hlt;split at hlt <;> omega
     · obtain ⟨q0,rfl⟩:=kQ cq;have hq0:q0<=N:=(by unfold sh at hq;split at hq <;> omega);rw [r2 p0 (hm p0 hp0),r2 q0 (hm q0 hq0)] at hlt;rw [kX _ _ _ oM,kX _ _ _ oM];refine h.first p0 q0 hp0 hq0 ?_;unfold inR at hlt;split at hlt <;> split at hlt <;> omega
 · have hsu:∀p0,p0<=N->sh at_ p0+1≠at_->p0 < N->sh at_ p0+1=sh at_ (p0+1):=fun p0 hp0 hc _=>by unfold sh at hc⊢;by_cases c1:p0 < at_ <;> by_cases c2:p0+1 < at_ <;> simp only [c1,c2,if_true,if_false] at hc⊢<;> omega
   have hat1:at_+1=sh at_ at_:=(by unfold sh;rw [zBw oM]);have ordS:∀p0 q0,p0<=N->q0<=N->(ro (aQ (R.map (sh at_)) row at_) (sh at_ p0) < ro (aQ (R.map (sh at_)) row at_) (sh at_ q0)↔ro R p0 < ro R q0):=fun p0 q0 hp0 hq0=>by rw [r2 p0 (hm p0 hp0),r2 q0 (hm q0 hq0)];unfold inR;split <;> split <;> omega
   have eN:∀x,x<=N->S.getD x 0≠0->x < N:=fun x hx hne=>Nat.lt_of_le_of_ne hx fun e=>by subst e;exact hne he.last
   unfold xI;by_cases cp:p=at_
   · subst cp;obtain ⟨q0,rfl⟩:=kQ (fun e=>hpq e.symm);have hq0:q0<=N:=(by unfold sh at hq;split at hq <;> omega);rw [r1,r2 q0 (hm q0 hq0),uW _ _ oM,kX _ _ _ oM];have hk:=hpre q0 hq0;rw [zCa] at hk;have hlt:row < inR (ro R q0) row↔¬ro R q0 < row:=(by unfold inR;split <;> omega);rw [hlt,<-hk];by_cases ce:S.getD q0 0=s
     · have hqN:=eN q0 hq0 oM;rw [hsu q0 hq0 hqi hqN,hat1,ordS p (q0+1) ha oM];have:=fun e=>gO (hm (q0+1) oM) (hm p ha) e;have hne:ro R (q0+1)≠ro R p:=fun e=>by have:=this e;unfold sh at hqi;split at hqi <;> omega
       omega
     omega
   · obtain ⟨p0,rfl⟩:=kQ cp;have hp0:p0<=N:=(by unfold sh at hp;split at hp <;> omega);by_cases cq:q=at_
     · subst cq;rw [r1,r2 p0 (hm p0 hp0),uW _ _ oM,kX _ _ _ oM];have hk:=hpre p0 hp0;rw [zCa] at hk;have hlt:inR (ro R p0) row < row↔ro R p0 < row:=(by unfold inR;split <;> omega);rw [hlt,<-hk];by_cases ce:S.getD p0 0=s
       · have hpN:=eN p0 hp0 oM;rw [hsu p0 hp0 hpi hpN,hat1,ordS (p0+1) q oM ha]
       omega
     · obtain ⟨q0,rfl⟩:=kQ cq;have hq0:q0<=N:=(by unfold sh at hq;split at hq <;> omega);have hpq0:p0≠q0:=fun e=>hpq (by rw [e]);rw [ordS p0 q0 hp0 hq0,kX _ _ _ oM,kX _ _ _ oM,h.cons p0 q0 hp0 hq0 hpq0 oM oM];unfold xI;by_cases ce:S.getD p0 0=S.getD q0 0
       · by_cases cz:S.getD p0 0=0;have x1:p0=N:=Nat.le_antisymm hp0 (Nat.not_lt.1 fun hl=>by have:=he.pos p0 hl;omega);have x2:q0=N:=Nat.le_antisymm hq0 (Nat.not_lt.1 fun hl=>by have:=he.pos q0 hl;omega);omega
         · have hpN:=eN p0 hp0 cz;have hqN:=eN q0 hq0 oM;rw [hsu p0 hp0 hpi hpN,hsu q0 hq0 hqi hqN,ordS (p0+1) (q0+1) oM oM]
       omega
theorem aEI (hn:R.Nodup) (hp:R.Perm (List.range (N+1))) (he:EndOk S N) {at_ s row:Nat} (ha:at_<=N) (hr:row<=R.length):aE (aQ S at_ s) (aQ (R.map (sh at_)) row at_)=aQ ((aE S R).set (ro R at_) s) row (bT S at_):=by
 have hS:=he.len;have hS':(aQ S at_ s).length=N+1+1:=by rw [eQ _ _ oM,hS]
 have hmem:∀p,p∈R->p<=N:=fun p hpm=>by have:=zCi.1 (hp.mem_iff.1 hpm);omega
 have hat:at_∈R:=hp.mem_iff.2 (zCi.2 oM);unfold aE;rw [pU];congr 1
 · apply List.ext_getElem?;intro j;rw [zAf,zAf,zBm,zAf];cases hg:R[j]? with
   | none=>
     simp;intro e;subst e;rw [cV hat] at hg;cases hg
   | some p=>
     have hpN:=hmem p (zAd hg);have hj:ro R p=j:=fJ hn hg;show some (bT (aQ S at_ s) (sh at_ p))=_;by_cases c:p=at_
     · subst c;rw [zBx hj,zBx (by simpa using (zAc.1 (hj ▸ hg)).1)];congr 1;rw [show sh p p=p+1 by unfold sh;rw [zBw oM],bE oM,uW _ _ oM]
     · rw [zBw (fun e=>c (by have h1:=cV hat;rw [e,hg] at h1;injection h1))];show some _=some (bT S p);congr 1;rcases p with _ | p
       · rw [show sh at_ 0=0 by unfold sh;rw [zBx oM],bW oM,bW oM,hS',hS,zBb,zBb,kY _ _ oM,zBw oM,zBw oM,zBb]
       · have e1:sh at_ (p+1)=sh at_ p+1:=(by unfold sh;split <;> split <;> omega);have hlt:sh at_ p+1 < N+1+1:=(by unfold sh;split <;> omega);rw [e1,bE oM,bE oM,kX _ _ _ oM]
 · rcases at_ with _ | a
   · rw [bW oM,bW oM,hS',hS,zBb,zBb,kY _ _ oM,zBw oM,zBw oM,zBb]
   · rw [bE oM,bE oM,kY _ _ oM,zBx oM]
theorem aC4 {a t x:Nat} (ha:R[a]?=some x):aE S (aQ (aI R a) t x)=aQ (aI (aE S R) a) t (bT S x):=by
 unfold aE;rw [pU,vG]
end
end Go.Proofs.YtnhmjomhloainaaGreatDoor
namespace Go.Proofs.YtnhmjomhloainaaGreatDoor
open Go.RowKit
def TpAt (w:World) (Bw gl:Nat) (t:List UInt8) (rate:Nat):Prop:=
 ∃rs gk gp pr,IsSuf (aD t) rs/\LiveG w Bw gl gk gp rate (t.length+1) (aE (aD t) rs) pr/\(∀x∈pr,rs[x.1]?=some x.2)/\(∃x∈pr,x.2=0)/\t.length<=127
theorem TpAt.vis {w w':World} {Bw gl:Nat} {t:List UInt8} {rate:Nat} (h:TpAt w Bw gl t rate) (k:Vis w w'):TpAt w' Bw gl t rate:=by
 obtain ⟨rs,gk,gp,pr,h1,h2,h3⟩:=h;exact ⟨rs,gk,gp,pr,h1,h2.vis k,h3⟩
theorem VB.grow {Bw:Nat} {w w1 w2:World} (h:VB Bw w w1) (k:Below w.heap.size w1 w2):VB Bw w w2:=
 ⟨⟨k.os.trans h.1.os,k.tape.trans h.1.tape,k.output.trans h.1.output,zAk h.1.size k.size,fun b hb hn=>by
   rcases h.1.block b hb hn with e |⟨cs,v,h1,h2⟩|⟨cs,v,h1,h2⟩;exact .inl ((k.block b hb).trans e);exact .inr (.inl ⟨cs,v,h1,h2.below k hb⟩)
   · exact .inr (.inr ⟨cs,v,h1,h2.below k hb⟩)⟩,
  ⟨k.os.trans h.2.os,k.tape.trans h.2.tape,k.output.trans h.2.output,zAk h.2.size k.size,fun b hb hn=>(k.block b hb).trans (h.2.block b hb hn)⟩⟩
theorem TpAt.mono {w:World} {B B' gl:Nat} {t:List UInt8} {rate:Nat} (h:TpAt w B gl t rate) (hB:B'<=B):TpAt w B' gl t rate:=by
 obtain ⟨rs,gk,gp,pr,h1,h2,h3⟩:=h;exact ⟨rs,gk,gp,pr,h1,h2.mono hB,h3⟩
theorem zS (w:World) (e:TypeId) (cs:Array Value) (fr:Nat×Nat) (n:Nat) (hs:cs.size=n):Rd (w.alloc (.cells cs e fr)) (w.heap.size+1) 1 (some ⟨w.heap.size,0,none⟩) n cs.toList:=by
 refine ⟨by simp [hs],fun _=>⟨_,0,rfl,by omega,fun j u hu=>?_⟩⟩;rw [zBi,cell_of_row (w.alloc (.cells cs e fr)) w.heap.size j cs e fr (heap_alloc_new w _)];simpa using hu
theorem jZ (w:World) (C:Array Value) (n c:Nat):(convert 23 23 (.slice (some ⟨w.heap.size,0,none⟩) n c)).run Tryz.prog (w.alloc (.cells C 5))=.ok (.slice (some ⟨w.heap.size,0,none⟩) n c) (w.alloc (.cells C 5 (C.size,C.size+1))):=
 Lib.run_convert_bytes_const (P:=Tryz.prog) w 23 5 C n c Tryz.underlying23 Tryz.underlying5
theorem uD (w:World) (o:Obj) (C:Array Value) (n c:Nat):(convert 23 23 (.slice (some ⟨w.heap.size+1,0,none⟩) n c)).run Tryz.prog ((w.alloc o).alloc (.cells C 5))=.ok (.slice (some ⟨w.heap.size+1,0,none⟩) n c) ((w.alloc o).alloc (.cells C 5 (C.size,C.size+1))):=by
 have:=jZ (w.alloc o) C n c;rw [World.size_alloc] at this;exact this
theorem aEA (W:World) (cs:Array Value) (fr:Nat×Nat) (bs:List UInt8) (n:Nat) (hcs:cs.toList=bs.map bv) (hn:bs.length=n):
 Rd ((W.alloc (.cells cs 5 fr)).alloc (.cells #[.slice (some ⟨W.heap.size,0,none⟩) n n] 23)) (W.heap.size+2) 1 (some ⟨W.heap.size+1,0,none⟩) 1 ([(⟨some ⟨W.heap.size,0,none⟩,n,n,bs⟩:Sl)].map slV)/\
 (∀s∈ [(⟨some ⟨W.heap.size,0,none⟩,n,n,bs⟩:Sl)],Rd ((W.alloc (.cells cs 5 fr)).alloc (.cells #[.slice (some ⟨W.heap.size,0,none⟩) n n] 23)) (W.heap.size+2) 1 s.A s.n (s.l.map bv)):=by
 constructor;have:=Rd.new_ (W.alloc (.cells cs 5 fr)) 23 1 #[.slice (some ⟨W.heap.size,0,none⟩) n n] rfl;rw [World.size_alloc] at this;exact this;intro s hs;simp at hs;subst hs;have h1:=zS W 5 cs fr n (by rw [<-Array.length_toList,hcs];simp [hn]);rw [hcs] at h1;exact (h1.alloc (by simp) _).mono oM
@[irreducible] def zerC (n:Nat):Array Value:=jK .i64 n fun _=>0
@[irreducible] def filC (L:List Nat) (k:Nat):Array Value:=jK .i64 257 fun s=>if s < k then cE L s 0 else 0
@[irreducible] def firC (L:List Nat) (k:Nat):Array Value:=jK .i64 257 fun s=>cE L s k
@[irreducible] def toC (L:List Nat) (n k:Nat):Array Value:=jK .i64 n fun i=>if i < k then cE L (L.getD i 0) i else 0
@[irreducible] def seenC (rs:List Nat) (n j:Nat):Array Value:=jK .i64 n fun i=>if j < rs.getD i 0 then 1 else 0
@[irreducible] def txtC (t:List UInt8) (j:Nat):Array Value:=jK .u8 t.length fun p=>if p < j then 0 else (t.getD p 0).toNat
theorem aDI (n:Nat):Array.replicate n (Value.int .i64 0)=zerC n:=by unfold zerC;exact nQ _ _
theorem aET (L:List Nat):Array.replicate 257 (Value.int .i64 0)=filC L 0:=by
 unfold filC;rw [nQ];exact cX fun i hi=>by rw [zBw oM]
theorem aGz {L:List Nat} {k:Nat} (h:k < 257):(filC L k).setIfInBounds k (.int .i64 ((L.countP (fun x=>decide (x < k)):Nat):Int))=filC L (k+1):=by
 unfold filC;rw [kM h];refine cX fun i hi=>?_;by_cases e:i=k
 · subst e;rw [zBx rfl,zBx oM];unfold cE;simp
 · rw [zBw e];by_cases e2:i < k
   · rw [zBx e2,zBx oM]
   · rw [zBw e2,zBw oM]
theorem aGB (L:List Nat):filC L 257=firC L 0:=by
 unfold filC firC;exact cX fun i hi=>by rw [zBx hi]
theorem aGA {L:List Nat} {k s:Nat} (h:s < 257):∃v,(filC L k)[s]?=some v:=by
 unfold filC;exact ⟨_,fL h⟩
theorem aGy {L:List Nat} {k s:Nat} (h:s < 257):(firC L k)[s]?=some (.int .i64 ((cE L s k:Nat):Int)):=by
 unfold firC;exact fL h
theorem aGx {L:List Nat} {k x:Nat} (hx:L[k]?=some x) (h:x < 257):(firC L k).setIfInBounds x (.int .i64 ((cE L x k+1:Nat):Int))=firC L (k+1):=by
 unfold firC;rw [kM h];refine cX fun i hi=>?_;rw [aEE hx];by_cases e:i=x
 · subst e;simp
 · rw [zBw e,zBw e]
theorem aFr (L:List Nat) (n:Nat):zerC n=toC L n 0:=by
 unfold zerC toC;exact cX fun i hi=>by rw [zBw oM]
theorem aDK {L:List Nat} {n k i:Nat} (h:i < n):(toC L n k)[i]?=some (.int .i64 (((if i < k then cE L (L.getD i 0) i else 0:Nat)):Int)):=by
 unfold toC;exact fL h
theorem aHb {L:List Nat} {n k x:Nat} (hx:L[k]?=some x) (h:k < n):(toC L n k).setIfInBounds k (.int .i64 ((cE L x k:Nat):Int))=toC L n (k+1):=by
 unfold toC;rw [kM h];refine cX fun i hi=>?_;by_cases e:i=k;subst e;rw [zBx rfl,zBx oM,zAb,hx];rfl
 · rw [zBw e];by_cases e2:i < k
   · rw [zBx e2,zBx oM]
   · rw [zBw e2,zBw oM]
theorem aCD {rs:List Nat} {n j:Nat} (h:∀p∈rs,p<=j):zerC n=seenC rs n j:=by
 unfold zerC seenC;refine cX fun i hi=>?_;rw [zBw];rw [zAb];cases e:rs[i]? with
 | none=>simp
 | some p=>simpa using h p (zAd e)
theorem aEr {rs:List Nat} {n j i:Nat} (h:i < n) (hi:rs[i]?=some j):(seenC rs n j)[i]?=some (.int .i64 0):=by
 unfold seenC;rw [fL h,zAb,hi];simp
theorem aEq {rs:List Nat} {n q i:Nat} {l:List Nat} (hs:IsSuf l rs) (hn:rs.length=n) (h:i < n) (hi:rs[i]?=some (q+1)):(seenC rs n (q+1)).setIfInBounds i (.int .i64 ((1:Nat):Int))=seenC rs n q:=by
 unfold seenC;rw [kM h];refine cX fun k hk=>?_;by_cases e:k=i
 · subst e;rw [zBx rfl,zAb,hi,zBx (by simp)]
 · rw [zBw e];obtain ⟨p,hp⟩:∃p,rs[k]?=some p:=⟨_,zAa oM⟩;have hne:p≠q+1:=fun e2=>e (tL hs (by rw [hp,e2]) hi);rw [zAb,hp];simp only [Option.getD_some];by_cases e3:q+1 < p
   · rw [zBx e3,zBx oM]
   · rw [zBw e3,zBw oM]
theorem aD9 (t:List UInt8):Array.replicate t.length (Value.int .u8 0)=txtC t t.length:=by
 unfold txtC;rw [nQ];exact cX fun i hi=>by rw [zBx hi]
theorem aFn {t:List UInt8} {q:Nat} {c:UInt8} (hc:t[q]?=some c):(txtC t (q+1)).setIfInBounds q (bv c)=txtC t q:=by
 have hq:=(zAc.1 hc).1;unfold txtC bv;rw [kM hq];refine cX fun i hi=>?_;by_cases e:i=q;subst e;rw [zBx rfl,zBw oM,zAb,hc];rfl
 · rw [zBw e];by_cases e2:i < q
   · rw [zBx e2,zBx oM]
   · rw [zBw e2,zBw oM]
theorem aFo {t:List UInt8} {j q:Nat} (h:q < t.length):∃v,(txtC t j)[q]?=some v:=by
 unfold txtC;exact ⟨_,fL h⟩
theorem aFp (t:List UInt8):(txtC t 0).toList=t.map bv:=by
 unfold txtC;rw [aE1];apply List.ext_getElem?;intro i;rw [zAf,zAf];by_cases h:i < t.length
 · rw [zCj h,zAa h];simp [bv,h]
 rw [zBg (by simpa using h),zBg (by simpa using h)];rfl
theorem aEa (t:List UInt8) (j:Nat):(txtC t j).size=t.length:=by unfold txtC;exact kL _ _ _
theorem aEv (n:Nat) (hn:n<=1000000) (w:World):(Instr.makeSlice 23 (.int .i64 (n:Int)) (.int .i64 (n:Int))).run Tryz.prog w=.ok (.slice (some ⟨w.heap.size,0,none⟩) n n) (w.alloc (.cells (Array.replicate n (.int .u8 0)) 5)):=by
 obtain ⟨i0,hi0,hz0,hz1,hz2⟩:=info_parts oX;have:=run_make (P:=Tryz.prog) w 23 5 i0 (.int .u8 0) Tryz.underlying23 hi0 hz0 .i64 .i64 n n oM (Int.le_refl _) (by rw [hz2];omega) oM;rw [this,hz1];have e:madeCells #[.int .u8 0] n=Array.replicate n (.int .u8 0):=by apply Array.ext';rw [toList_madeCells_one];simp
 simp only [Value.cells,zBr,zBl];rw [e]
theorem wQ (A:Option Addr) (c B:Nat) (t:List UInt8) (rs:List Nat) (w:World) (hs:IsSuf (aD t) rs) (hr:Rd w B 1 A (t.length+1) ((aE (aD t) rs).map sv)) (hB:B<=w.heap.size) (hm:t.length<=127):
 Calls Tryz.prog 88 #[.slice A (t.length+1) c] w fun e w'=>∃A' c',e=.returned (.tuple #[.slice A' t.length c',.bool true])/\Made w' w.heap.size 5 1 A' t.length c' (t.map bv)/\Below w.heap.size w w':=by
 obtain ⟨L,hL⟩:=eqx (aE (aD t) rs);have hlt:=dG (rs:=rs) (eK t);have hc0:=aDg hs;have hlen:L.length=t.length+1:=by rw [<-hL,bJ,hs.len,aJ]
 rw [hL] at hr hlt hc0;obtain ⟨N,hN⟩:=eqx t.length;obtain ⟨n,hn⟩:=eqx (N+1);rw [hN,hn] at hr hlen;rw [hN] at hm;have hnew:=qG A n c B L w hr hB oM hlt;obtain ⟨bA,oA,rfl,hbA,hcA⟩:=hr.2 oM;have hcell:∀wr,Below w.heap.size w wr->∀(k x:Nat),L[k]?=some x->wr.cell? ⟨bA,oA+k,none⟩=some (.int .i64 (x:Int)):=fun wr hb k x hx=>(hb.cell (p:=⟨bA,oA+k,none⟩) (zAl hbA hB)).trans (hcA k _ (by rw [zAf,hx];rfl));obtain ⟨Hr,Hcell,Hlt,Hlen,HL,HN,Hc0⟩:=hqq7 hr hcell hlt hlen hL hN hc0;rw [hN,hn];clear hr hcA hcell hlt hlen hL hN hc0;go_enter Tryz.func88,Tryz.ntmps88;go_wp2_with fail;refine hnew.mono ?_;clear hnew;rintro e w1 ⟨gt,rfl,hgt,hbt,hb1⟩;obtain ⟨Hbt,Hb1⟩:=hqq2 hbt hb1;clear hbt hb1;go_wp2_with fail;have hof:=sK gt L 0 w1 Hbt.out oM;rw [Hc0.out] at hof;refine hof.mono ?_;clear hof;rintro e W0 ⟨rfl,hb2⟩;obtain ⟨Hbt0,Hb0⟩:=hqq2 (Hbt.out.below hb2 Hbt.out.lt) (Hb1.out.trans (hb2.mono Hb1.out.size));clear hb2 Hbt Hb1;go_wp2_with fail;have hn128:n<=128:=oM;refine wp_region_any kR ?_;refine tY [29,30,31,32,33,34,6,7] [31,34] 8 (Grow) (Below W0.heap.size W0) [k0 (is (.slice (some ⟨bA,oA,none⟩) n c)),k0 (is (.int .i64 (n:Int))),k0 (fun v w2=>∃g,v=.slice (some ⟨g,0,none⟩) n n/\W0.heap.size<=g/\Bk w2 g 3 (zerC n)),k0 (is (.slice (some ⟨bA,oA,none⟩) n c)),k0 (is (.int .i64 (n:Int))),k0 (fun v w2=>∃g,v=.slice (some ⟨g,0,none⟩) n n/\W0.heap.size<=g/\Bk w2 g 3 (zerC n)),kEq 31,kEq 34] _ _ rfl kR kR (bR.drew) (vN rfl) (fun w w' h k=>k.elim (fun k=>h.trans (k.mono h.size)) (fun k=>h.trans (k.mono h.size))) (by repeat' (first | exact aDe _ | exact aDY _ |(refine zAe.2 ⟨?_,?_⟩)|(intro p hp;cases hp))) (by repeat' (first | exact tH _ _ | exact pC _ _ | exact iP (fun _ _ _ ⟨g,h1,h2,h3⟩ k=>⟨g,h1,h2,h3.below k h3.lt⟩)|(refine zAe.2 ⟨?_,?_⟩)|(intro p hp;cases hp))) (by simp only [List.eraseIdx_cons_zero,List.eraseIdx_cons_succ,List.eraseIdx_nil];repeat' (first | exact tH _ _ | exact pC _ _ | exact iP (fun _ _ _ ⟨g,h1,h2,h3⟩ k=>⟨g,h1,h2,h3.below k h3.lt⟩)|(refine zAe.2 ⟨?_,?_⟩)|(intro p hp;cases hp))) ?_ ?_
 · refine aT ?_;refine aA (cR rfl rfl fun ev _ _ _ _ _ hold _ _ _ _ hK=>?_) ?_
   · have e0:ev (.tmp 0)=.slice (some ⟨bA,oA,none⟩) n c:=hold 0 kR;clear hold;go_simp;exact hK _ _ (dF bR rfl rfl) rfl
   refine aA (cR rfl rfl fun _ _ _ _ _ _ hold hval _ _ _ hK=>?_) ?_
   · have e29:_=_:=hval 0 29 kR rfl;clear hold;go_simp;exact hK _ _ (dF bR rfl rfl) rfl
   refine aA (cR rfl rfl fun _ _ hCA _ _ _ hold hval _ _ _ hK=>?_) ?_
   · obtain ⟨hS,hAp⟩:=hCA;have e30:_=_:=hval 1 30 kR rfl;clear hold;have kz:=lW n oM;go_simp;exact hK _ _ (iU (bR.alloc nL _) rfl (fun g hg=>by simp [blk?] at hg;subst hg;simp)) ⟨_,rfl,hS.size,by rw [<-aDI];exact Bk.new _ _ _⟩
   refine aA (cR rfl rfl fun ev _ _ _ _ _ hold _ _ _ _ hK=>?_) ?_
   · have e0:ev (.tmp 0)=.slice (some ⟨bA,oA,none⟩) n c:=hold 0 kR;clear hold;go_simp;exact hK _ _ (dF bR rfl rfl) rfl
   refine aA (cR rfl rfl fun _ _ _ _ _ _ hold hval _ _ _ hK=>?_) ?_
   · have e32:_=_:=hval 3 32 kR rfl;clear hold;go_simp;exact hK _ _ (dF bR rfl rfl) rfl
   refine aA (cR rfl rfl fun _ _ hCA _ _ _ hold hval _ _ _ hK=>?_) ?_
   · obtain ⟨hS,hAp⟩:=hCA;have e33:_=_:=hval 4 33 kR rfl;clear hold;have kz:=lW n oM;go_simp;exact hK _ _ (iU (bR.alloc nL _) rfl (fun g hg=>by simp [blk?] at hg;subst hg;simp)) ⟨_,rfl,hS.size,by rw [<-aDI];exact Bk.new _ _ _⟩
   refine aA (cR rfl rfl fun _ _ _ _ _ _ hold _ _ _ _ hK=>?_) ?_
   · clear hold;go_simp;exact hK _ _ (dF bR rfl rfl) rfl
   refine aA (cR rfl rfl fun _ _ _ _ _ _ hold _ _ _ _ hK=>?_) ?_
   · clear hold;go_simp;exact hK _ _ (dF bR rfl rfl) rfl
   exact aG
 · intro ev w6 hS hAp hval hall;have e6:ev (.tmp 6)=ev (.tmp 31):=hval 6 6 rfl;have e7:ev (.tmp 7)=ev (.tmp 34):=hval 7 7 rfl;have p31:(fun v w2=>∃g,v=.slice (some ⟨g,0,none⟩) n n/\W0.heap.size<=g/\Bk w2 g 3 (zerC n)) (ev (.tmp 31)) w6:=hval 2 31 rfl;have p34:(fun v w2=>∃g,v=.slice (some ⟨g,0,none⟩) n n/\W0.heap.size<=g/\Bk w2 g 3 (zerC n)) (ev (.tmp 34)) w6:=hval 5 34 rfl;simp only [aO,zq1,zq2,Act.put,zq3,zq4,zq5];clear hval hall;obtain ⟨gs,hs1,hs2,hs3⟩:=p31;obtain ⟨go,ho1,ho2,ho3⟩:=p34;have hd1:gs≠go:=fun e=>hAp.2 31 (by simp) 34 (by simp) dC gs (by rw [hs1];rfl) (by rw [ho1,e];rfl);have hb6:=Hb0.out.trans (hS.mono Hb0.out.size);have hbt6:=Hbt0.out.below hS Hbt0.out.lt;have hge:=Hb0.out.size;rw [e6,e7,hs1,ho1];generalize ev (.tmp 29)=u29;generalize ev (.tmp 30)=u30;generalize ev (.tmp 32)=u32;generalize ev (.tmp 33)=u33;obtain ⟨Hs3,Ho3,Hb6,Hbt6⟩:=hqq4 hs3 ho3 hb6 hbt6;clear hs3 ho3 hb6 hbt6 hAp e6 e7 hs1 ho1 hS;go_wp2_with fail;obtain ⟨gf,hgf⟩:∃g,w6.heap.size=g:=⟨_,rfl⟩;have hf0:Bk (w6.alloc (.cells Tryz.zeroCells202 202)) gf 202 (filC L 0):=(by rw [<-hgf,<-aET];exact Bk.new _ _ _);have hs0:=Hs3.out.alloc (.cells Tryz.zeroCells202 202);have ho0:=Ho3.out.alloc (.cells Tryz.zeroCells202 202);have ht0:=Hbt6.out.alloc (.cells Tryz.zeroCells202 202);have hb0:=Hb6.out.alloc Hb6.out.size (.cells Tryz.zeroCells202 202);have hgfs:gs < gf:=(by rw [<-hgf];exact Hs3.out.lt);have hgfo:go < gf:=(by rw [<-hgf];exact Ho3.out.lt);have hgft:gt < gf:=(by rw [<-hgf];exact Hbt6.out.lt);have hgts:gt≠gs:=Bk.ne Hbt6.out Hs3.out dC;have hgto:gt≠go:=Bk.ne Hbt6.out Ho3.out dC;rw [hgf];generalize w6.alloc (.cells Tryz.zeroCells202 202)=W1 at hf0 hs0 ho0 ht0 hb0⊢;clear Hs3 Ho3 Hb6 Hbt6 Hbt0 Hb0 hgf;go_loopw [35] (fun i wr=>∃k:Nat,k<=257/\i=.int .i64 (k:Int)/\Bk wr gf 202 (filC L k)/\Bk wr gs 3 (zerC n)/\Bk wr go 3 (zerC n)/\Bk wr gt 229 (tcells L)/\Below w.heap.size w wr) (fun i _=>257 -(intOf i).toNat)
   case atStart=>exact ⟨0,by omega,rfl,hf0,hs0,ho0,ht0,hb0⟩
   case round=>
    clear hf0 hs0 ho0 ht0 hb0;obtain ⟨k,hk,rfl,hf,hz,ho,ht,hb⟩:=hrel;by_cases hlt:k < 257
    · have hk1:((k:Int) < 257):=oM;have hbel:=jF gt L k wr ht hlt (by rw [Hlen.out];omega);obtain ⟨q,hq⟩:∃q,L.countP (fun x=>decide (x < k))=q:=⟨_,rfl⟩;have hset:=aGz (L:=L) hlt;rw [hq] at hbel hset;obtain ⟨Hf,Hz,Ho,Ht,Hset⟩:=hqq5 hf hz ho ht hset;clear hf hz ho ht hset hq;go_wp2_with fail;refine hbel.mono ?_;clear hbel;rintro e w7 ⟨rfl,hb7⟩;have hf7:=Hf.out.below hb7 Hf.out.lt;obtain ⟨v0,hv0⟩:=aGA (L:=L) (k:=k) hlt;have c7:=(hf7.cell k).trans hv0;have f7:=hf7.frozen k;have Hf7:=lhd hf7;clear hf7 hv0;go_wp2_with fail;go_roundw
      case rel=>exact ⟨k+1,by omega,by go_num,by rw [<-Hset.out];exact Hf7.out.set k _,(Hz.out.below hb7 Hz.out.lt).far (by simp;omega) _,(Ho.out.below hb7 Ho.out.lt).far (by simp;omega) _,(Ht.out.below hb7 Ht.out.lt).far (by simp;omega) _,(hb.trans (hb7.mono hb.size)).setCell (by simp;omega) _⟩
      case measure=>simp [intOf];omega
    · have hks:k=257:=oM;subst hks;rw [aGB] at hf;have e257:((257:Nat):Int)=257:=rfl;rw [e257];clear e257;obtain ⟨Hf,Hz,Ho,Hb⟩:=hqq4 hf hz ho hb;clear hf hz ho ht hb hlt hk;go_wp2_with fail;have hgo0:w.heap.size<=go:=oM;have hgs0:w.heap.size<=gs:=oM;have hgf0:w.heap.size<=gf:=oM;have hne1:gf≠go:=oM;have hne2:go≠gf:=oM;go_loopw [46] (fun i wr=>∃k:Nat,k<=n/\i=.int .i64 (k:Int)/\Bk wr gf 202 (firC L k)/\Bk wr gs 3 (zerC n)/\Bk wr go 3 (toC L n k)/\Below w.heap.size w wr) (fun i _=>n -(intOf i).toNat)
      case atStart=>exact ⟨0,by omega,rfl,Hf.out,Hz.out,by rw [<-aFr];exact Ho.out,Hb.out⟩
      case round=>
         clear Hf Hz Ho Hb;obtain ⟨k,hk,rfl,hf,hz,ho,hb⟩:=hrel;by_cases hlt:k < n
         · obtain ⟨x,hx⟩:∃x,L[k]?=some x:=⟨_,zAa (by rw [Hlen.out];exact hlt)⟩;have hx257:=Hlt.out x (zAd hx);have c1:=Hcell.out wr hb k x hx;obtain ⟨q,hq⟩:=eqx (cE L x k);have hql:q<=1000:=(by have:=tO L x k;rw [hq,Hlen.out] at this;omega);have c2:wr.cell? ⟨gf,x,none⟩=some (.int .i64 (q:Int)):=(by rw [<-hq];exact (hf.cell x).trans (aGy hx257));have f2:=hf.frozen x;have c3:wr.cell? ⟨go,k,none⟩=some (.int .i64 (((if k < k then cE L (L.getD k 0) k else 0:Nat)):Int)):=(ho.cell k).trans (aDK hlt);have f3:=ho.frozen k;have hset1:=aHb hx hlt;have hset2:=aGx hx hx257;rw [hq] at hset1 hset2;have hadd:IntKind.i64.wrap ((q:Int)+1)=((q+1:Nat):Int):=(by rw [IntKind.wrap_i64];omega);obtain ⟨Hf,Hz,Ho,Hset1,Hset2⟩:=hqq5 hf hz ho hset1 hset2;clear hf hz ho hset1 hset2 hq;go_wp2_with fail;go_roundw
           case rel=>exact ⟨k+1,by omega,by go_num,by rw [<-Hset2.out];exact (Hf.out.far (p:=⟨go,k,none⟩) hne1 _).set x _,(Hz.out.far (p:=⟨go,k,none⟩) hd1 _).far (p:=⟨gf,x,none⟩) (Nat.ne_of_lt hgfs) _,by rw [<-Hset1.out];exact (Ho.out.set k _).far (p:=⟨gf,x,none⟩) hne2 _,(hb.setCell (p:=⟨go,k,none⟩) hgo0 _).setCell (p:=⟨gf,x,none⟩) hgf0 _⟩
           case measure=>simp [intOf];omega
         · have hks:n=k:=oM;subst hks;obtain ⟨Hz,Ho,Hb⟩:=hqq3 hz ho hb;have hge2:=hb.size;clear hf hz ho hb hlt hk hne1 hne2;have hNn:((n:Int) - 1)=(N:Int):=oM;have kz:=aEv N oM;go_wp2_with fail;obtain ⟨gx,hgx⟩:∃g,wr.heap.size=g:=⟨_,rfl⟩;have hx0:Bk (wr.alloc (.cells (Array.replicate N (.int .u8 0)) 5)) gx 5 (txtC t N):=(by rw [<-hgx,<-HN.out,<-aD9];exact Bk.new _ _ _);have hs0:=Hz.out.alloc (.cells (Array.replicate N (.int .u8 0)) 5);have ho0:=Ho.out.alloc (.cells (Array.replicate N (.int .u8 0)) 5);have hb0:=Hb.out.alloc Hb.out.size (.cells (Array.replicate N (.int .u8 0)) 5);have hgxs:gs≠gx:=Nat.ne_of_lt (by rw [<-hgx];exact Hz.out.lt);have hgxo:go≠gx:=Nat.ne_of_lt (by rw [<-hgx];exact Ho.out.lt);have hgx0:w.heap.size<=gx:=(by rw [<-hgx];exact Hb.out.size);rw [hgx];generalize wr.alloc (.cells (Array.replicate N (.int .u8 0)) 5)=W2 at hx0 hs0 ho0 hb0⊢;clear Hz Ho Hb hgx kz hge2;have hrl:rs.length=n:=(by have:=congrArg List.length HL.out;rw [bJ,Hlen.out] at this;exact this);have hle:∀p∈rs,p<=N:=fun p hp=>by have:=hs.lt hp;rw [aJ,HN.out] at this;omega
           rw [aCD hle] at hs0;have hrow0:=pK hs;rw [HN.out] at hrow0;obtain ⟨Hrl,Hle,Hs⟩:=hqq3 hrl hle hs;clear hrl hle;go_loopw [13,14] (fun r i wr=>∃j p:Nat,j<=N/\rs[p]?=some j/\r=.int .i64 (p:Int)/\i=.int .i64 ((j:Int) - 1)/\Bk wr gs 3 (seenC rs n j)/\Bk wr go 3 (toC L n n)/\Bk wr gx 5 (txtC t j)/\Below w.heap.size w wr) (fun _ i _=>(intOf i+1).toNat)
           case atStart=>exact ⟨N,0,by omega,hrow0,rfl,by first | rfl | go_num,hs0,ho0,hx0,hb0⟩
           case round=>
            clear hs0 ho0 hx0 hb0 hrow0;obtain ⟨j,p,hj,hp,rfl,rfl,hz,ho,hx,hb⟩:=hrel;have hpl:p < n:=(by rw [<-Hrl.out];exact (zAc.1 hp).1);by_cases hj0:j=0
            · subst hj0;have hl0:=aEH Hs.out hp;rw [HL.out] at hl0;have c1:=Hcell.out wr hb p 0 hl0;have hj1:(((0:Nat):Int) - 1)=-1:=rfl;rw [hj1];have hmx:=aDT (B:=w.heap.size) hx hgx0 ((aEa t 0).trans HN.out) (by unfold maxLen;omega);rw [aFp] at hmx;obtain ⟨Hmx,Hb⟩:=hqq2 hmx hb;clear hz ho hx hb hmx hl0;have hlast:=mN (some ⟨gx,0,none⟩) N N wr.heap.size t wr Hmx.out.rd nL oM;rw [hn] at hlast;go_wp2_with fail;refine hlast.mono ?_;clear hlast;rintro e w8 ⟨rs2,A8,c8,hs2,rfl,hm8,hb8⟩;have hrs:=hs2.unique Hs.out;subst hrs;rw [HL.out] at hm8;have hsame:=wP A8 (some ⟨bA,oA,none⟩) n c8 c w8.heap.size L w8 hm8.rd (((Hr.out.below (Hb.out.mono hB)).below (hb8.mono (by have:=Hb.out.size;omega))).mono (by have:=Hb.out.size;have:=hb8.size;omega)) nL oM;have Hb8:=lhd hb8;clear hb8 hm8 hs2 c1;go_wp2_with fail;refine hsame.mono ?_;clear hsame;rintro e w9 ⟨rfl,hb9⟩;have Hb9:=lhd hb9;clear hb9;go_wp2_with fail;go_ret2;have hb89:=Hb8.out.trans (Hb9.out.mono Hb8.out.size);exact ⟨_,_,rfl,Hmx.out.below hb89,Hb.out.trans (hb89.mono Hb.out.size)⟩
            · obtain ⟨q,rfl⟩:∃q,j=q+1:=⟨j - 1,by omega⟩;have hq1:(((q+1:Nat):Int) - 1)=(q:Int):=oM;rw [hq1];have hqN:q < t.length:=(by rw [HN.out];omega);obtain ⟨ch,hch⟩:∃ch,t[q]?=some ch:=⟨_,zAa hqN⟩;obtain ⟨p2,hp2l,hp2e⟩:=Hs.out.row (p:=q) (by rw [aJ,HN.out];omega);have hp2:rs[p2]?=some q:=(by rw [zAa hp2l,hp2e]);obtain ⟨ho1,ho2⟩:=aGc Hs.out hp hp2 hch;rw [HL.out] at ho1 ho2;have c1:=Hcell.out wr hb p _ ho1;obtain ⟨s,hsv⟩:=eqx (ch.toNat+1);have hby:=sM ch s hsv.symm wr;rw [hsv] at ho1 ho2 c1;have hset1:=aEq (n:=n) Hs.out Hrl.out hpl hp;have hset2:=aFn hch;have hgo:(toC L n n)[p]?=some (.int .i64 (p2:Int)):=(by rw [aDK hpl,zBx hpl,zAb,ho1];show some (Value.int .i64 ((cE L s p:Nat):Int))=_;rw [ho2]);obtain ⟨v0,hv0⟩:=aFo (t:=t) (j:=q+1) hqN;obtain ⟨Hp2,Hset1,Hset2,Hgo,Hz,Ho,Hx,Hv0,Hsg⟩:=hqq9 hp2 hset1 hset2 hgo hz ho hx hv0 (aEr hpl hp);clear hp2 hp2e hp2l ho1 ho2 hsv hset1 hset2 hgo hz ho hx hv0 hch;go_wp2_with fail;refine hby.mono ?_;clear hby;rintro e w8 ⟨rfl,hb8⟩;have hz8:=Hz.out.below hb8 Hz.out.lt;have ho8:=Ho.out.below hb8 Ho.out.lt;have hx8:=Hx.out.below hb8 Hx.out.lt;have d1:=(hz8.cell p).trans Hsg.out;have d2:=hz8.frozen p;have d3:=(ho8.cell p).trans Hgo.out;have d4:=(hx8.cell q).trans Hv0.out;have d5:=hx8.frozen q;have hgos:go≠gs:=fun e=>hd1 e.symm;have hgxs2:gx≠gs:=fun e=>hgxs e.symm;have hgxo2:gx≠go:=fun e=>hgxo e.symm;obtain ⟨Hz8,Ho8,Hx8,Hb8⟩:=hqq4 hz8 ho8 hx8 (hb.trans (hb8.mono hb.size));clear hz8 ho8 hx8 hb8 hb;unfold bv;go_wp2_with fail;go_roundw
              case rel=>
               refine ⟨q,p2,by omega,Hp2.out,rfl,?_,?_,?_,?_,?_⟩
               · first | rfl | go_num
               rw [<-Hset1.out];exact (Hz8.out.set p _).far (p:=⟨gx,q,none⟩) hgxs _;exact (Ho8.out.far (p:=⟨gs,p,none⟩) hgos _).far (p:=⟨gx,q,none⟩) hgxo _;rw [<-Hset2.out];exact (Hx8.out.far (p:=⟨gs,p,none⟩) hgxs2 _).set q _;exact (Hb8.out.setCell (p:=⟨gs,p,none⟩) hgs0 _).setCell (p:=⟨gx,q,none⟩) hgx0 _
              case measure=>simp [intOf]
end Go.Proofs.YtnhmjomhloainaaGreatDoor
namespace Go.Proofs.YtnhmjomhloainaaGreatDoor
open Go.RowKit Go.Shelf
theorem xW (gp R P:Nat) (pr:List (Nat×Nat)) (row:Nat) (w:World) (h:PermR w gp R P pr) (hno:∀x∈pr,x.1≠row):
 Calls Tryz.prog 217 #[.pointer (some ⟨gp,0,none⟩),.int .i64 (row:Int)] w fun e w'=>e=.returned (.int .i64 (-1))/\Below w.heap.size w w':=by
 obtain ⟨B,ga,vl,vo,vt,vf,ks,C,tk,fr,h1,h2,h3,h4,rfl⟩:=h;exact aAF B gp ga vl vo vt vf R P ks C tk fr row w h1 h2 oM fun k hk=>hno _ (zAy.2 ⟨k,hk,rfl⟩)
theorem oD (gp R P:Nat) (pr:List (Nat×Nat)) (row pos:Nat) (w:World) (h:PermR w gp R P pr) (hin:(row,pos)∈pr):
 Calls Tryz.prog 217 #[.pointer (some ⟨gp,0,none⟩),.int .i64 (row:Int)] w fun e w'=>e=.returned (.int .i64 (pos:Int))/\Below w.heap.size w w':=by
 obtain ⟨B,ga,vl,vo,vt,vf,ks,C,tk,fr,h1,h2,h3,h4,rfl⟩:=h;obtain ⟨k,hk,e⟩:=zAy.1 hin;injection e with e1 e2;subst e2;exact aAE B gp ga vl vo vt vf R P ks C tk fr row k w h1 h2 oM oM hk e1
theorem aAL (Bw gl gk gp rate:Nat) (t:List UInt8) (rs:List Nat) (C:List (Nat×Nat)) (i p:Nat) (w:World) (h:LiveG w Bw gl gk gp rate (t.length+1) (aE (aD t) rs) C) (hrt:∀x∈C,rs[x.1]?=some x.2) (hz0:∃x∈C,x.2=0) (hs:IsSuf (aD t) rs) (hn:t.length<=127) (hip:rs[i]?=some p):
 Calls Tryz.prog 167 #[.pointer (some ⟨gl,0,none⟩),.int .i64 (i:Int)] w fun e w'=>e=.returned (.int .i64 (p:Int))/\VB Bw w w':=by
 have hl:rs.length=t.length+1:=by rw [hs.len,aJ]
 have hi:=(zAc.1 hip).1;have hL:(aE (aD t) rs).length=t.length+1:=by rw [bJ,hl]
 have hpN:p < t.length+1:=by have:=hs.lt (zAd hip);rwa [aJ] at this
 obtain ⟨N,hN⟩:=eqx t.length;have hz1:∀a:Nat,rs[a]?=some 0->(a,0)∈C:=fun a ha=>by obtain ⟨⟨r,q⟩,hx,e⟩:=hz0;have e':q=0:=e;subst e';have h1:rs[r]?=some 0:=hrt _ hx;rw [tL hs ha h1];exact hx
 have hpr:∀a b b':Nat,rs[a]?=some b->(a,b')∈C->b'=b:=fun a b b' hab hm=>by have h1:rs[a]?=some b':=hrt _ hm;rw [hab] at h1;injection h1 with h1;exact h1.symm
 have hstep:∀a b:Nat,rs[a]?=some (b+1)->∃s a',(aE (aD t) rs)[a]?=some s/\cE (aE (aD t) rs) s a=a'/\rs[a']?=some b:=fun a b hab=>by obtain ⟨ha,ea⟩:=zAc.1 hab;have hbm:b+1 < (aD t).length:=hs.lt (zAd hab);obtain ⟨a',ha',ea'⟩:=hs.row (p:=b) oM;have he:=dZ t;have hla:=pT he ha ea (by rw [aJ] at hbm;omega);exact ⟨(aD t).getD b 0,a',zAc.2 ⟨_,hla⟩,lf hs he ha ha' ea ea',zAc.2 ⟨ha',ea'⟩⟩
 rw [hN] at h;rw [hN] at hL hpN hn hl;have hiI:¬(N:Int) < (i:Int):=oM;have hi0:decide ((i:Int) < 0)=false:=by simp
 have hi2:decide ((i:Int) > (N:Int))=false:=by simp;omega
 have hi3:decide (N < i)=false:=by simp;omega
 obtain ⟨H,Hz1,Hpr,Hstep,HL⟩:=hqq5 h hz1 hpr hstep hL;have HLt:=lhd (dG (eK t) (rs:=rs));have Hip:=lhd hip;obtain ⟨mv,hblk⟩:=h.blk;have c0:=hblk.cell 0;have c1:=hblk.cell 1;have hlt:=hblk.lt;clear h hz1 hpr hz0 hrt hstep hL hs hip hi hN hl hblk;go_enter Tryz.func167,Tryz.ntmps167;go_wp2_with fail;refine (bQ Bw gl _ N w H.out.lvw HL.out oM).mono ?_;rintro e w1 ⟨rfl,rfl⟩;go_wp2_with fail;clear c0 c1 hiI hi0 hi2 hi3;go_loopw [1,5] (fun x y wr=>∃a b m:Nat,rs[a]?=some b/\b+m=p/\x=.int .i64 (a:Int)/\y=.int .i64 (m:Int)/\VB Bw w wr) (fun _ y _=>p+1 -(intOf y).toNat)
 case atStart=>exact ⟨i,p,0,Hip.out,rfl,rfl,rfl,VisK.refl _ _⟩
 case round=>
  obtain ⟨a,b,m,hab,hbm,rfl,rfl,hv⟩:=hrel;have h1:=H.out.vis hv.1;obtain ⟨mv1,hblk1⟩:=h1.blk;have c0:=hblk1.cell 0;have c1:=hblk1.cell 1;have hlt1:=hblk1.lt;obtain ⟨Hv,H1,Hab⟩:=hqq3 hv h1 hab;clear h1 hv hab hblk1;by_cases hb0:∃b',(a,b')∈C
  · obtain ⟨b',hb1⟩:=hb0;have hbb:=Hpr.out a b b' Hab.out hb1;subst hbb;have Hin:=lhd hb1;have hbI:¬(b':Int) < 0:=oM;have hsum:IntKind.i64.wrap ((b':Int)+(m:Int))=(p:Int):=(by rw [IntKind.wrap_i64];omega);clear hb1 hbm;go_wp2_with fail;refine (oD gp (N+1) (N+1) C a b' wr H1.out.perm Hin.out).mono ?_;rintro e w2 ⟨rfl,hb2⟩;have h2:=H1.out.vis (Vis.of_below hb2);obtain ⟨mv2,hblk2⟩:=h2.blk;have c20:=hblk2.cell 0;have c21:=hblk2.cell 1;have hlt2:=hblk2.lt;have hv2:=Hv.out.below hb2;obtain ⟨Hv2,H2⟩:=hqq2 hv2 h2;clear c0 c1 h2 hv2 hb2 hblk2;go_wp2_with fail;refine (oD gp (N+1) (N+1) C a b' w2 H2.out.perm Hin.out).mono ?_;rintro e w3 ⟨rfl,hb3⟩;have hv3:=Hv2.out.below hb3;have Hv3:=lhd hv3;clear c20 c21 hv3 hb3;go_wp2_with fail;go_ret;exact ⟨rfl,Hv3.out⟩
  · have hno:∀x∈C,x.1≠a:=fun x hx e=>hb0 ⟨x.2,by rw [<-e];exact hx⟩;have Hno:=lhd hno
    obtain ⟨b',rfl⟩:∃b',b=b'+1:=⟨b - 1,by
        rcases zBa b with h0 | h0;subst h0;exact absurd ⟨0,Hz1.out a Hab.out⟩ hb0
        · omega⟩
    obtain ⟨s,a',hs1,hs2,hs3⟩:=Hstep.out a b' Hab.out;obtain ⟨Hs1,Hs2,Hs3⟩:=hqq3 hs1 hs2 hs3;clear hno hb0 hs1 hs2 hs3;go_wp2_with fail;refine (xW gp (N+1) (N+1) C a wr H1.out.perm Hno.out).mono ?_;rintro e w2 ⟨rfl,hb2⟩;have h2:=H1.out.vis (Vis.of_below hb2);obtain ⟨mv2,hblk2⟩:=h2.blk;have c20:=hblk2.cell 0;have c21:=hblk2.cell 1;have hlt2:=hblk2.lt;have hv2:=Hv.out.below hb2;obtain ⟨Hv2,H2⟩:=hqq2 hv2 h2;clear c0 c1 h2 hv2 hb2 hblk2;go_wp2_with fail;refine (lD Bw gk _ a s w2 H2.out.walk Hs1.out HLt.out (by rw [HL.out];omega)).mono ?_;rintro e w3 ⟨rfl,hv3⟩;rw [Hs2.out];have hv4:=Hv2.out.trans hv3;have Hv4:=lhd hv4;clear c20 c21 hv3 hv4;go_wp2_with fail;go_roundw
    case rel=>exact ⟨a',b',m+1,Hs3.out,by omega,rfl,by go_num,Hv4.out⟩
    case measure=>simp [intOf];omega
end Go.Proofs.YtnhmjomhloainaaGreatDoor
