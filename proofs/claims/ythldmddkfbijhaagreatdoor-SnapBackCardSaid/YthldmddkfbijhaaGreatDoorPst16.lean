/- Lemmas of the walk. Conditions: each its own. -/
import Derived.Test.YthldmddkfbijhaaGreatDoorPst11
import Derived.Test.YthldmddkfbijhaaGreatDoorProg
import Derived.Test.YthldmddkfbijhaaGreatDoorShl
import Derived.Test.YthldmddkfbijhaaGreatDoorSht
set_option linter.all false
set_option maxRecDepth 100000
set_option maxHeartbeats 4000000
open Go.Proofs.Tryz
namespace Go.Proofs.YthldmddkfbijhaaGreatDoor
section
open Go.RowKit
theorem aCw {a:List UInt8} {c:List Nat} (d:IsSuf (aF a) c):c[0]?=some a.length:=by
 obtain ⟨o,l,m⟩:=eE a;obtain ⟨j,g,f⟩:=d.row (p:=a.length) oM;rcases zBa j with e | e
 · subst e;rw [zAa g,f]
 · exfalso;have b:=zAr.1 d.sorted 0 j oM g e;rw [f] at b;have n:=d.lt (zBj (show 0 < c.length by omega));have q:c[0]' oM≠a.length:=fun k=>by exact (zAr.1 d.nodup 0 j oM g e) (by rw [k,f])
   rw [iD,eU (by omega:a.length < (aF a).length),eU n,l] at b;have:=m (c[0]' oM) oM;rcases b with b | b;omega;omega
theorem uY {n c:List Nat} (d:IsSuf n c) {i b k:Nat} (l:c[i]?=some k) (m:c[b]?=some k):i=b:=by
 obtain ⟨e,f⟩:=zAc.1 l;obtain ⟨g,j⟩:=zAc.1 m;rcases Nat.lt_trichotomy i b with a | a | a;exact absurd (by rw [f,j]) (zAr.1 d.nodup i b e g a);exact a;exact absurd (by rw [f,j]) (zAr.1 d.nodup b i g e a)
end
section
theorem aER {a:List Nat} (k:a.Nodup) {x:Nat} (m:x∈a) {c d:Nat->Bool} (j:∀b∈a,b≠x->c b=d b):a.countP c+(if d x then 1 else 0)=a.countP d+(if c x then 1 else 0):=by
 have f:=List.perm_cons_erase m;have l:=f.nodup_iff.1 k;have e:(a.erase x).countP c=(a.erase x).countP d:=List.countP_congr fun b g=>by rw [j b (List.mem_of_mem_erase g) (fun e=>(List.nodup_cons.1 l).1 (e ▸ g))]
 rw [f.countP_eq,f.countP_eq,zBn,zBn,e];omega
theorem aKr {R:List Nat} (d:R.Nodup) {a:Nat} (e:a∈R):R.countP (fun f=>decide (ro R f < ro R a))=ro R a:=by
 have b:=aAo d (ro R a) (fun _=>true);have c:(R.take (ro R a)).countP (fun _=>true)=(R.take (ro R a)).length:=List.countP_eq_length.2 fun _ _=>rfl;rw [c,zAj] at b;have g:ro R a < R.length:=List.idxOf_lt_length_iff.2 e;rw [zCt oM] at b;simp only [Bool.true_and] at b;exact b.symm
def aIV (c d b:Nat):Nat:=let a:=if d < b then c - 1 else c;if b<=a then a+1 else a
section
variable {S R : List Nat} {N i : Nat}
theorem aIg (c:Near S R N (i+2)) (B:i+1 < N):(if S.getD (i+1) 0=S.getD i 0 then aIV (cH (aE S R) (S.getD i 0) (ro R (i+1))) (ro R (i+2)) (ro R (i+1)) else cH (aE S R) (S.getD i 0) (ro R (i+1)))=ro R i/\
 (S.getD (i+1) 0=S.getD i 0->ro R (i+2) < ro R (i+1)->0 < cH (aE S R) (S.getD i 0) (ro R (i+1))):=by
 have t:=c.nodup;have l:∀a,a<=N->a∈R:=fun a m=>c.mem.2 m;have n:∀a e,a<=N->e<=N->a≠e->ro R a≠ro R e:=fun a e m v u g=>u (eS (l a m) (l e v) g);have r:=c.endk.pos i oM;rw [rM c.endk c.perm r];have p:(List.range (N+1)).countP (fun a=>decide (ro R a < ro R i))=ro R i:=by rw [<-c.perm.countP_eq];exact aKr t (l i oM)
 have q:∀d∈List.range (N+1),d≠i+1->decide (ro R d < ro R i)=decide (S.getD d 0 < S.getD i 0∨(S.getD d 0=S.getD i 0/\ro R (d+1) < ro R (i+1))):=fun d w E=>by rw [zCj] at w;rw [decide_eq_decide];by_cases o:d=i;subst o;omega;exact c.cons d i oM oM o oM oM
 have b:=aER List.nodup_range (x:=i+1) (by simp;omega) q;rw [p] at b;unfold aBk;generalize D:List.countP (fun a=>decide (S.getD a 0 < S.getD i 0∨(S.getD a 0=S.getD i 0/\ro R (a+1) < ro R (i+1)))) (List.range (N+1))=n0 at b⊢;have C:=n i (i+1) oM oM oM;have A:=n (i+2) (i+1) oM oM oM;have y:=c.first (i+1) i oM oM;have z:=c.first i (i+1) oM oM;simp only [zCa,show i+1+1=i+2 by omega] at b;by_cases k:S.getD (i+1) 0=S.getD i 0
 · have j:(S.getD (i+1) 0 < S.getD i 0∨(S.getD (i+1) 0=S.getD i 0/\ro R (i+2) < ro R (i+1)))↔ro R (i+2) < ro R (i+1):=oM;simp only [j] at b;rw [zBx k];unfold aIV;refine ⟨?_,fun _ s=>?_⟩
   · by_cases f:ro R (i+2) < ro R (i+1)
     · rw [zBx f] at b;simp only [zBx f];split at b <;> split <;> omega
     · rw [zBw f] at b;simp only [zBw f];split at b <;> split <;> omega
   · rw [zBx s] at b;split at b <;> omega
 have j:(S.getD (i+1) 0 < S.getD i 0∨(S.getD (i+1) 0=S.getD i 0/\ro R (i+2) < ro R (i+1)))↔ro R (i+1) < ro R i:=oM;simp only [j] at b;rw [zBw k];exact ⟨by omega,fun g=>absurd g k⟩
def sh (b a:Nat):Nat:=if a < b then a else a+1
theorem aEa {b c d:Nat} (a:sh b c=sh b d):c=d:=by unfold sh at a;split at a <;> split at a <;> omega
theorem aAs (a b:Nat):sh a b≠a:=by unfold sh;split <;> omega
theorem lR {b a:Nat} (e:a≠b):∃d,sh b d=a:=by
 by_cases c:a < b;exact ⟨a,by unfold sh;rw [zBx c]⟩;exact ⟨a - 1,by unfold sh;rw [zBw oM];omega⟩
theorem mE (b:List Nat) {c:Nat} (d:Nat) (e:c<=b.length) (a:Nat):(aP b c d).getD a 0=if a < c then b.getD a 0 else if a=c then d else b.getD (a - 1) 0:=by
 rw [zAb,iT b d e];split
 · rw [zAb]
 · split;rfl
   · rw [zAb]
theorem aJT (a:List Nat) {c:Nat} (d:c < a.length) (b:Nat):(aG a c).getD b 0=if b < c then a.getD b 0 else a.getD (b+1) 0:=by
 rw [zAb,dW a d];split
 · rw [zAb]
 · rw [zAb]
theorem mD (c:List Nat) {b:Nat} (e a:Nat) (f:b<=c.length):(aP c b e).getD (sh b a) 0=c.getD a 0:=by
 rw [mE c e f];by_cases d:a < b
 · rw [show sh b a=a by unfold sh;rw [zBx d],zBx d]
 · rw [show sh b a=a+1 by unfold sh;rw [zBw d],zBw oM,zBw oM,zBb]
theorem xC (b:List Nat) {a:Nat} (c:Nat) (d:a<=b.length):(aP b a c).getD a 0=c:=by
 rw [mE b c d,zBw oM,zBx rfl]
theorem aHQ {R:List Nat} (l:R.Nodup) {at_ row:Nat} (n:row<=R.length):ro (aP (R.map (sh at_)) row at_) at_=row/\(∀a∈R,ro (aP (R.map (sh at_)) row at_) (sh at_ a)=inR (ro R a) row)/\(aP (R.map (sh at_)) row at_).Nodup:=by
 have e:row<=(R.map (sh at_)).length:=by simpa using n
 have b:(aP (R.map (sh at_)) row at_).Nodup:=by rw [(eX _ _ _).nodup_iff,List.nodup_cons];refine ⟨fun k=>?_,List.pairwise_map.2 (l.imp fun g j=>g (aEa j))⟩;obtain ⟨a,_,f⟩:=zAy.1 k;exact aAs _ _ f
 refine ⟨fP b ?_,fun a m=>fP b ?_,b⟩
 · rw [iT _ _ e,zBw oM,zBx rfl]
 rw [iT _ _ e];have d:=cC m;unfold inR;by_cases c:row<=ro R a;rw [zBx c,zBw oM,zBw oM,zBb,zAf,d];rfl;rw [zBw c,zBx oM,zAf,d];rfl
theorem aJO (f:EndOk S N) {a c:Nat} (k:a<=N) (g:0 < c):EndOk (aP S a c) (N+1):=by
 obtain ⟨d,e,b⟩:=f;refine ⟨by rw [eF _ _ oM,d],?_,fun j l=>?_⟩
 · rw [mE _ _ oM,zBw oM,zBw oM,zBb,e]
 rw [mE _ _ oM];split;exact b j oM;split;exact g;exact b _ oM
theorem aH5 {R:List Nat} (c:R.Perm (List.range (N+1))) {a:Nat} (row:Nat) (n:a<=N):(aP (R.map (sh a)) row a).Perm (List.range (N+1+1)):=by
 refine (List.perm_ext_iff_of_nodup ?_ List.nodup_range).2 fun m=>?_;rw [(eX _ _ _).nodup_iff,List.nodup_cons];refine ⟨fun k=>?_,List.pairwise_map.2 ((c.nodup_iff.2 List.nodup_range).imp fun g j=>g (aEa j))⟩;obtain ⟨d,_,f⟩:=zAy.1 k;exact aAs _ _ f
 · rw [(eX _ _ _).mem_iff,List.mem_cons,zAy,zCj];constructor
   · rintro (rfl |⟨d,l,rfl⟩);omega
     · have:=zCj.1 (c.mem_iff.1 l);unfold sh;split <;> omega
   · intro e;by_cases b:m=a;exact .inl b
     · obtain ⟨d,rfl⟩:=lR b;refine .inr ⟨d,c.mem_iff.2 (zCj.2 ?_),rfl⟩;unfold sh at e b;split at e <;> omega
theorem aIi (a2:IsSuf S R) (r:EndOk S N) {c s:Nat} (u:c<=N) (Y:0 < s):cH (aE S R) s (ro R c)<=R.length/\Near (aP S c s) (aP (R.map (sh c)) (cH (aE S R) s (ro R c)) c) (N+1) c:=by
 have m:=a2.near r;have H:=m.nodup;have l:∀d,d<=N->d∈R:=fun d n=>m.mem.2 n;obtain ⟨row,X⟩:=eqx (cH (aE S R) s (ro R c));have Q:R.countP (fun d=>decide (S.getD d 0 < s∨(S.getD d 0=s/\ro R (d+1) < ro R c)))=row:=by rw [<-X,rM r m.perm Y,m.perm.countP_eq];rfl
 rw [X];have T:row<=R.length:=by rw [<-Q];exact zBh
 have A:∀d,d<=N->(decide (S.getD d 0 < s∨(S.getD d 0=s/\ro R (d+1) < ro R c))=true↔ro R d < row):=fun d n=>by rw [<-Q];refine aBc (K:=fun d=>decide (S.getD d 0 < s∨(S.getD d 0=s/\ro R (d+1) < ro R c))) ?_ _ _ (cC (l d n));rw [zAr];intro w x M P aa k;have a7:ro R R[w]=w:=fP H (zAa M);have a8:ro R R[x]=x:=fP H (zAa P);have a3:R[w]<=N:=m.mem.1 (zBj M);have a4:R[x]<=N:=m.mem.1 (zBj P);have z:=(m.cons R[w] R[x] a3 a4 (fun j=>by rw [j,a8] at a7;omega) oM oM).1 oM;unfold tI at z;rw [zCa] at k⊢;omega
 obtain ⟨E,q,ab⟩:=aHQ H (at_:=c) T;have a9:=r.len;refine ⟨T,aJO r u Y,aH5 m.perm row u,fun d v n o g=>?_,fun d v n o W V B=>?_⟩
 · by_cases t:d=c
   · subst t;by_cases p:v=d;subst p;omega
     · obtain ⟨b,rfl⟩:=lR p;have e:b<=N:=(by unfold sh at o;split at o <;> omega);rw [E,q b (l b e)] at g;rw [xC _ _ oM,mD _ _ _ oM];have k:=A b e;rw [zCa] at k;unfold inR at g;split at g <;> omega
   · obtain ⟨a,rfl⟩:=lR t;have f:a<=N:=(by unfold sh at n;split at n <;> omega);by_cases p:v=c
     · subst p;rw [E,q a (l a f)] at g;rw [xC _ _ oM,mD _ _ _ oM];have k:=A a f;rw [zCa] at k;unfold inR at g;split at g <;> omega
     · obtain ⟨b,rfl⟩:=lR p;have e:b<=N:=(by unfold sh at o;split at o <;> omega);rw [q a (l a f),q b (l b e)] at g;rw [mD _ _ _ oM,mD _ _ _ oM];refine m.first a b f e ?_;unfold inR at g;split at g <;> split at g <;> omega
 · have C:∀a,a<=N->sh c a+1≠c->a < N->sh c a+1=sh c (a+1):=fun a f z _=>by unfold sh at z⊢;by_cases Z:a < c <;> by_cases a0:a+1 < c <;> simp only [Z,a0,if_true,if_false] at z⊢<;> omega
   have O:c+1=sh c c:=(by unfold sh;rw [zBw oM]);have D:∀a b,a<=N->b<=N->(ro (aP (R.map (sh c)) row c) (sh c a) < ro (aP (R.map (sh c)) row c) (sh c b)↔ro R a < ro R b):=fun a b f e=>by rw [q a (l a f),q b (l b e)];unfold inR;split <;> split <;> omega
   have y:∀F,F<=N->S.getD F 0≠0->F < N:=fun F a6 U=>Nat.lt_of_le_of_ne a6 fun j=>by subst j;exact U r.last
   unfold tI;by_cases t:d=c
   · subst t;obtain ⟨b,rfl⟩:=lR (fun j=>W j.symm);have e:b<=N:=(by unfold sh at o;split at o <;> omega);rw [E,q b (l b e),xC _ _ oM,mD _ _ _ oM];have k:=A b e;rw [zCa] at k;have g:row < inR (ro R b) row↔¬ro R b < row:=(by unfold inR;split <;> omega);rw [g,<-k];by_cases L:S.getD b 0=s
     · have J:=y b e oM;rw [C b e B J,O,D d (b+1) u oM];have:=fun j=>eS (l (b+1) oM) (l d u) j;have U:ro R (b+1)≠ro R d:=fun j=>by have:=this j;unfold sh at B;split at B <;> omega
       omega
     omega
   · obtain ⟨a,rfl⟩:=lR t;have f:a<=N:=(by unfold sh at n;split at n <;> omega);by_cases p:v=c
     · subst p;rw [E,q a (l a f),xC _ _ oM,mD _ _ _ oM];have k:=A a f;rw [zCa] at k;have g:inR (ro R a) row < row↔ro R a < row:=(by unfold inR;split <;> omega);rw [g,<-k];by_cases L:S.getD a 0=s
       · have I:=y a f oM;rw [C a f V I,O,D (a+1) v oM u]
       omega
     · obtain ⟨b,rfl⟩:=lR p;have e:b<=N:=(by unfold sh at o;split at o <;> omega);have a5:a≠b:=fun j=>W (by rw [j]);rw [D a b f e,mD _ _ _ oM,mD _ _ _ oM,m.cons a b f e a5 oM oM];unfold tI;by_cases L:S.getD a 0=S.getD b 0
       · by_cases a1:S.getD a 0=0;have ac:a=N:=Nat.le_antisymm f (zCr.1 fun G=>by have:=r.pos a G;omega);have ad:b=N:=Nat.le_antisymm e (zCr.1 fun G=>by have:=r.pos b G;omega);omega
         · have I:=y a f a1;have J:=y b e oM;rw [C a f V I,C b e B J,D (a+1) (b+1) oM oM]
       omega
theorem aGA (r:R.Nodup) (m:R.Perm (List.range (N+1))) (p:EndOk S N) {b s row:Nat} (v:b<=N) (y:row<=R.length):aE (aP S b s) (aP (R.map (sh b)) row b)=aP ((aE S R).set (ro R b) s) row (bM S b):=by
 have e:=p.len;have j:(aP S b s).length=N+1+1:=by rw [eF _ _ oM,e]
 have q:∀a,a∈R->a<=N:=fun a t=>by have:=zCj.1 (m.mem_iff.1 t);omega
 have k:b∈R:=m.mem_iff.2 (zCj.2 oM);unfold aE;rw [nP];congr 1
 · apply List.ext_getElem?;intro n;rw [zAf,zAf,zBm,zAf];cases c:R[n]? with
   | none=>
     simp;intro d;subst d;rw [cC k] at c;cases c
   | some a=>
     have x:=q a (zAd c);have l:ro R a=n:=fP r c;show some (bM (aP S b s) (sh b a))=_;by_cases f:a=b
     · subst f;rw [zBx l,zBx (by simpa using (zAc.1 (l ▸ c)).1)];congr 1;rw [show sh a a=a+1 by unfold sh;rw [zBw oM],aY oM,xC _ _ oM]
     · rw [zBw (fun d=>f (by have g:=cC k;rw [d,c] at g;injection g))];show some _=some (bM S a);congr 1;rcases a with _ | a
       · rw [show sh b 0=0 by unfold sh;rw [zBx oM],bT oM,bT oM,j,e,zBb,zBb,mE _ _ oM,zBw oM,zBw oM,zBb]
       · have o:sh b (a+1)=sh b a+1:=(by unfold sh;split <;> split <;> omega);have w:sh b a+1 < N+1+1:=(by unfold sh;split <;> omega);rw [o,aY oM,aY oM,mD _ _ _ oM]
 · rcases b with _ | u
   · rw [bT oM,bT oM,j,e,zBb,zBb,mE _ _ oM,zBw oM,zBw oM,zBb]
   · rw [aY oM,aY oM,mE _ _ oM,zBx oM]
theorem aEC {a c b:Nat} (d:R[a]?=some b):aE S (aP (aG R a) c b)=aP (aG (aE S R) a) c (bM S b):=by
 unfold aE;rw [nP,rY]
end
section
variable {S R : List Nat} {N : Nat}
def ush (b a:Nat):Nat:=if a < b then a else a - 1
theorem aHh (a b:Nat):ush a (sh a b)=b:=by
 unfold ush sh
 (repeat' split)<;> omega
theorem aD9 {k a:Nat} (b:a≠k):sh k (ush k a)=a:=by
 unfold ush sh
 (repeat' split)<;> omega
theorem jW (a:List Nat) {b:Nat} (c:Nat) (d:b < a.length):(aG a b).getD c 0=a.getD (sh b c) 0:=by
 rw [aJT a d];unfold sh;split <;> rfl
theorem aJS (d:EndOk S (N+1)) {a:Nat} (f:a<=N):EndOk (aG S a) N:=by
 obtain ⟨e,b,c⟩:=d;have g:=cW S (k:=a) oM;refine ⟨by omega,?_,fun l j=>?_⟩;rw [jW _ _ oM];unfold sh;rw [zBw oM];exact b
 · rw [jW _ _ oM];refine c _ ?_;unfold sh;split <;> omega
theorem aBq (m:R.Perm (List.range (N+1+1))) {b:Nat} (t:b<=N):(b::aG R (ro R b)).Perm R/\(aG R (ro R b)).Nodup/\(∀a∈R,a≠b->(aG R (ro R b))[aW (ro R a) (ro R b)]?=some a)/\∀a,a∈aG R (ro R b)↔a∈R/\a≠b:=by
 have r:R.Nodup:=m.nodup_iff.2 List.nodup_range;have l:b∈R:=m.mem_iff.2 (zCj.2 oM);have j:=cC l;have q:=(zAc.1 j).1;have d:=eJ j;have f:=d.nodup_iff.2 r;rw [List.nodup_cons] at f;refine ⟨d,f.2,fun a n s=>?_,fun a=>?_⟩;have k:=cC n;have u:ro R a≠ro R b:=fun e=>s (eS n l e);rw [dW _ q];unfold aW;by_cases g:ro R b < ro R a;rw [zBx g,zBw oM,show ro R a - 1+1=ro R a by omega];exact k;rw [zBw g,zBx oM];exact k;constructor;intro c;exact ⟨d.mem_iff.1 (List.mem_cons_of_mem _ c),fun e=>f.1 (e ▸ c)⟩;rintro ⟨o,p⟩;rcases List.mem_cons.1 (d.mem_iff.2 o) with c | c;exact absurd c p;exact c
theorem aHR (e:R.Perm (List.range (N+1+1))) {at_:Nat} (r:at_<=N):((aG R (ro R at_)).map (ush at_)).Perm (List.range (N+1))/\∀a,a<=N->ro ((aG R (ro R at_)).map (ush at_)) a=aW (ro R (sh at_ a)) (ro R at_):=by
 obtain ⟨v,p,q,b⟩:=aBq e r;have g:((aG R (ro R at_)).map (ush at_)).Nodup:=by refine List.pairwise_map.2 (p.imp_of_mem fun {c l} d t s m=>s ?_);have n:=aD9 (k:=at_) ((b c).1 d).2;have o:=aD9 (k:=at_) ((b l).1 t).2;rw [<-n,<-o,m]
 have f:∀a,a<=N->sh at_ a∈R:=fun a w=>e.mem_iff.2 (zCj.2 (by unfold sh;split <;> omega));refine ⟨(List.perm_ext_iff_of_nodup g List.nodup_range).2 fun j=>?_,fun a u=>?_⟩
 · rw [zAy,zCj];constructor
   · rintro ⟨c,d,rfl⟩;have:=zCj.1 (e.mem_iff.1 ((b c).1 d).1);have:=((b c).1 d).2;unfold ush;split <;> omega
   intro x;exact ⟨sh at_ j,(b _).2 ⟨f j oM,aAs _ _⟩,aHh _ _⟩
 · refine fP g ?_;rw [zAf,q _ (f a u) (aAs _ _)];show some (ush at_ (sh at_ a))=some a;rw [aHh]
theorem aIj (x:IsSuf S R) (j:EndOk S (N+1)) {at_:Nat} (q:at_<=N):Near (aG S at_) ((aG R (ro R at_)).map (ush at_)) N at_:=by
 have k:=x.near j;have I:=j.len;obtain ⟨w,o⟩:=aHR k.perm q;have l:∀a,a<=N+1->a∈R:=fun a d=>k.mem.2 d;have f:∀a,a<=N->sh at_ a<=N+1:=fun a d=>by unfold sh;split <;> omega
 have m:∀a b,a<=N->b<=N->(ro ((aG R (ro R at_)).map (ush at_)) a < ro ((aG R (ro R at_)).map (ush at_)) b↔ro R (sh at_ a) < ro R (sh at_ b)):=fun a b d e=>by rw [o a d,o b e];have K:ro R (sh at_ a)≠ro R at_:=fun g=>aAs _ _ (eS (l _ (f a d)) (l at_ oM) g);have L:ro R (sh at_ b)≠ro R at_:=fun g=>aAs _ _ (eS (l _ (f b e)) (l at_ oM) g);unfold aW;split <;> split <;> omega
 refine ⟨aJS j q,w,fun a b d e B=>?_,fun a b d e E D F=>?_⟩;rw [jW _ _ oM,jW _ _ oM];exact k.first _ _ (f a d) (f b e) ((m a b d e).1 B)
 · have C:sh at_ a≠sh at_ b:=fun g=>E (aEa g);rw [m a b d e,k.cons _ _ (f a d) (f b e) C oM oM];unfold tI;rw [jW _ _ oM,jW _ _ oM];by_cases H:S.getD (sh at_ a) 0=S.getD (sh at_ b) 0
   · by_cases n:S.getD (sh at_ a) 0=0;have u:∀c,c<=N+1->S.getD c 0=0->c=N+1:=fun c s t=>Nat.le_antisymm s (zCr.1 fun A=>by have:=j.pos c A;omega);have M:=u _ (f a d) n;have O:=u _ (f b e) oM;omega
     · have r:∀c,c<=N->c+1≠at_->S.getD (sh at_ c) 0≠0->c < N/\sh at_ c+1=sh at_ (c+1):=fun c s J t=>by have y:sh at_ c≠N+1:=fun g=>t (by rw [g];exact j.last);have z:c < N:=(by rcases zBe c N with p | p;exact p;exfalso;apply y;unfold sh;rw [zBw oM];omega);refine ⟨z,?_⟩;unfold sh;split <;> split <;> omega
       obtain ⟨G,v⟩:=r a d D n;obtain ⟨b1,b2⟩:=r b e F oM;rw [v,b2,m (a+1) (b+1) oM oM]
   omega
theorem aGB (e:R.Perm (List.range (N+1+1))) (s:EndOk S (N+1)) {at_:Nat} (A:at_<=N):aE (aG S at_) ((aG R (ro R at_)).map (ush at_))=aG ((aE S R).set (ro R (at_+1)) (bM S at_)) (ro R at_):=by
 have w:R.Nodup:=e.nodup_iff.2 List.nodup_range;have z:=s.len;have B:=cW S (k:=at_) oM;have v:∀a,a∈R->a<=N+1:=fun a g=>by have:=zCj.1 (e.mem_iff.1 g);omega
 have r:at_∈R:=e.mem_iff.2 (zCj.2 oM);have n:at_+1∈R:=e.mem_iff.2 (zCj.2 oM);have o:=(zAc.1 (cC r)).1;have x:∀a,a<=N+1->a≠at_->bM (aG S at_) (ush at_ a)=if a=at_+1 then bM S at_ else bM S a:=fun a C p=>by
  by_cases b:a=at_+1
  · subst b;rw [zBx rfl,show ush at_ (at_+1)=at_ by unfold ush;rw [zBw oM];omega];rcases at_ with _ | y;rw [bT oM,bT oM,jW _ _ oM];unfold sh;rw [zBw oM];congr 1;omega
    · rw [aY oM,aY oM,jW _ _ oM];unfold sh;rw [zBx oM]
  · rw [zBw b];rcases a with _ | a;rw [show ush at_ 0=0 by unfold ush;split <;> omega,bT oM,bT oM,jW _ _ oM];unfold sh;rw [zBw oM];congr 1;omega
    · by_cases m:a+1 < at_
      · rw [show ush at_ (a+1)=a+1 by unfold ush;rw [zBx m],aY oM,aY oM,jW _ _ oM];unfold sh;rw [zBx oM]
      · obtain ⟨f,rfl⟩:∃f,a=f+1:=⟨a - 1,by omega⟩;rw [show ush at_ (f+1+1)=f+1 by unfold ush;rw [zBw m];omega,aY oM,aY oM,jW _ _ oM];unfold sh;rw [zBw oM]
 unfold aE;rw [zCh];apply List.ext_getElem?;intro l;have u:ro R at_ < ((R.map (bM S)).set (ro R (at_+1)) (bM S at_)).length:=by simpa using o
 rw [zAf,dW _ o,dW _ u];have q:∀i,i≠ro R at_->Option.map (bM (aG S at_)∘ ush at_) R[i]?=((R.map (bM S)).set (ro R (at_+1)) (bM S at_))[i]?:=fun i t=>by
  rw [zBm,zAf];cases c:R[i]? with
  | none=>
    have:¬ro R (at_+1)=i:=fun d=>by rw [<-d,cC n] at c;cases c
    rw [zBw this];rfl
  | some a=>
    have g:=zAd c;have j:=fP w c;have p:a≠at_:=fun d=>t (by rw [<-j,d]);show some (bM (aG S at_) (ush at_ a))=_;rw [x a (v a g) p];by_cases b:a=at_+1
    · subst b;rw [zBx rfl,zBx j,zBx (by rw [j];simpa using (zAc.1 c).1)]
    rw [zBw b,zBw (fun d=>b ?_)];rfl;rw [<-d,cC n] at c;injection c with c;exact c.symm
 by_cases b:l < ro R at_;rw [zBx b,zBx b];exact q l oM;rw [zBw b,zBw b];exact q (l+1) oM
end
end
section
open Go.RowKit
theorem TabW.vb {a:Nat} {b d:World} (e:TabW b) (j:VB a b d) (k:1 < a) (g:1 < b.heap.size):TabW d:=
 fun c f=>(j.2.cell (p:=⟨1,c,none⟩) g (by show ¬(a<=1);omega)).trans (e c f)
theorem aDp (e m q B C:Nat) (k:Nat) (X:Int) (A:List Bool) (s r n:Nat) (c:World) (a0:TreeAt c m A) (K:Bk c q 3 #[(r:Int)]) (P:Bk c B 3 #[(n:Int)]) (U:Bk c C 3 #[(k:Int)]) (am:k < 9) (an:n < 257) (O:A[s]?=some (fY n k)) (J:(A.take s).count (fY n k)=r) (G:TabW c) (ai:1 < e) (aj:e<=m):
 Calls prog 201 #[.agg #[m,(k:Int),.int .i64 X],q,B,C] c fun E az=>E=.returned (.tuple #[])/\
  ∃w1,VB e c w1/\Bk w1 q 3 #[(r:Int)]/\az=w1.setCell ⟨q,0,none⟩ (.int .i64 (s:Int)):=by
 have ar:=K.lt;have au:=P.lt;have av:=U.lt;have a1:1 < c.heap.size:=G.pos;obtain ⟨o,w⟩:=eqx (fY n k);rw [w] at O J;obtain ⟨a3,M⟩:=eqx (Obj.cells #[m,(k:Int),.int .i64 X] 157);have l:=(Below.refl c.heap.size c).alloc nL a3;have y:=Bk.new c 157 #[m,(k:Int),.int .i64 X];rw [M] at y;have aw:=y.lt;obtain ⟨t,I⟩:=eqx (c.alloc a3);have T:=a0.below l;have L:=K.below l ar;have Q:=P.below l au;have V:=U.below l av;have H:=G.below l a1;rw [I] at l y T L Q V H aw;have a2:=l.size;obtain ⟨a8,ac,a9,af,Y,ad,ag,a6,a5⟩:=hqq9 w O J T L Q V H l;obtain ⟨ae,ab,a7,aa⟩:=hqq4 y M I a2;clear w O J a0 K P U G l y M T L Q V H I a2;go_enter func201,ntmps201;go_wp2_with fail;rw [ab.out,a7.out];refine wp_region_any kR ?_;refine cA e 7 [5,6,7,8,9,10,11] (fun _=>False) 6 [] (fun _=>True) (is (s:Int)) [is c.heap.size,is m,is (r:Int),is (n:Int),is (k:Int),is (.bool o),cX] _ _ rfl dC kR kR kR (trivial) (fun _ _ _ _ _=>trivial) (iI _ _) tA1 ?_ ?_
 · refine bJ ?_;refine pH3 4 (.pointer (some ⟨c.heap.size,0,none⟩)) ?_;refine sC3 (fun _ b a _ _ _ _ j _ _ _ d=>?_) ?_
   · replace a:VFB e (fun _=>False) t b:=fD a;have aI:_=_:=j 0 5 kR rfl;have W:b.cell? ⟨c.heap.size,0,none⟩=some (.pointer (some ⟨m,0,none⟩)):=((a.1.bk ae.out dC dC (fun g=>g)).cell 0).trans rfl;go_simp;exact d _ _ (aH vR) rfl
   refine sC3 (fun p b a _ _ _ x _ _ _ _ d=>?_) ?_
   · replace a:VFB e (fun _=>False) t b:=fD a;have aC:p (.tmp 1)=.pointer (some ⟨q,0,none⟩):=x 1 kR;have W:b.cell? ⟨q,0,none⟩=some (.int .i64 (r:Int)):=((a.1.bk Y.out dC dC (fun g=>g)).cell 0).trans rfl;go_simp;exact d _ _ (aH vR) rfl
   refine sC3 (fun p b a _ _ _ x _ _ _ _ d=>?_) ?_
   · replace a:VFB e (fun _=>False) t b:=fD a;have aF:p (.tmp 2)=.pointer (some ⟨B,0,none⟩):=x 2 kR;have W:b.cell? ⟨B,0,none⟩=some (.int .i64 (n:Int)):=((a.1.bk ad.out dC dC (fun g=>g)).cell 0).trans rfl;go_simp;exact d _ _ (aH vR) rfl
   refine sC3 (fun p b a _ _ _ x _ _ _ _ d=>?_) ?_
   · replace a:VFB e (fun _=>False) t b:=fD a;have aG:p (.tmp 3)=.pointer (some ⟨C,0,none⟩):=x 3 kR;have W:b.cell? ⟨C,0,none⟩=some (.int .i64 (k:Int)):=((a.1.bk ag.out dC dC (fun g=>g)).cell 0).trans rfl;go_simp;exact d _ _ (aH vR) rfl
   refine sC3 (fun _ b _ _ _ _ _ j _ _ _ d=>?_) ?_
   · have aL:_=_:=j 3 8 kR rfl;have aM:_=_:=j 4 9 kR rfl;go_simp;refine (mO n k b an am).mono ?_;rintro E aA ⟨rfl,al⟩;rw [a8.out];exact d _ _ (aH (VisK.of_below al)) rfl
   refine sC3 (fun _ b a _ _ _ _ j _ _ _ d=>?_) ?_
   · replace a:VFB e (fun _=>False) t b:=fD a;have aJ:_=_:=j 1 6 kR rfl;have aK:_=_:=j 2 7 kR rfl;have aE:_=_:=j 5 10 kR rfl;go_simp;have u:=VFB.to_vb a (fun o _ g=>g);have ao:=af.out.vis u.1;have ak:=a6.out.vb u ai (zAl a1 aa.out);refine (yA m A s r o b ao ac.out a9.out ak oM).mono ?_;rintro E aA ⟨rfl,ap⟩;exact d _ _ (aH (ap.mono fun o w=>by rcases w with rfl;exact aj)) rfl
   exact aD
 · intro p z v a j Z;replace a:VFB e (fun _=>False) t z:=fD a;have ah:p (.tmp 11)=.int .i64 (s:Int):=j 6 11 dC rfl;obtain ⟨ay,a4⟩:=Z 6 dC;have ax:(is (s:Int)) ay z:=a4;clear a4 Z;simp only [zqq];rw [ah];clear j;have u:=VFB.to_vb a (fun o _ g=>g);have D:=u.1.bk Y.out dC dC;have aB:z.cell? ⟨q,0,none⟩=some (.int .i64 (r:Int)):=(D.cell 0).trans rfl;have aN:=D.frozen 0;have aq:=(VisK.of_below (F:=fun o=>e<=o) a5.out).trans u;have aO:=D.lt;clear u a ax;change wpAny prog Region.Mode.any _ _ (1+v) (bX 7 8) _ z;rw [zCs 1 v];refine bG (f:=v) (i:=7) kR ?_;refine bV rfl rfl ?_;generalize d:wpAny prog _ _ _ v _=K5;go_simp;subst d;refine bW kR ?_;go_wp2_with fail;go_end0;exact ⟨rfl,z,aq,D,rfl⟩
theorem aG7 (m a f d O P:Nat) (S:Nat->Value) (B ak k:Int) (q:Nat) (w:List Bool) (j a3 C:Nat) (w0 c:World) (L:Bk c a 154 (wcells S B ak)) (a0:TreeAt w0 f w) (a1:Vis w0 c) (aN:w0.heap.size<=d) (J:Bk c d 3 #[(a3:Int)]) (Z:Bk c O 3 #[(C:Int)]) (V:Bk c P 3 #[(q:Int)]) (aS:q < 9) (aT:C < 257) (af:w[j]?=some (fY C q)) (ad:(w.take j).count (fY C q)=a3) (Q:TabW c) (aF:1 < m) (aI:m<=a) (aH:m<=f) (aG:m<=d):
 Calls prog 111 #[a,.agg #[f,(q:Int),.int .i64 k],.func (.func 201) #[] #[d,O,P]] c fun s a4=>s=.returned (.tuple #[])/\
  VisF (fun b=>b=d) c a4/\Keep (fun b=>m<=b) c a4/\Bk a4 d 3 #[(j:Int)]:=by
 have ag:=a0.vis a1;obtain ⟨aB,av,ay,aw,au,aA⟩:=hqq6 a0 a1 af ad Q Z;have bg:=Z.lt;have aY:1 < c.heap.size:=Q.pos;clear a0 a1 af ad Q Z;obtain ⟨b0,X⟩:=eqx (Obj.cells #[f,(q:Int),.int .i64 k] 157);have ab:=(Below.refl c.heap.size c).alloc nL b0;have Y:=Bk.new c 157 #[f,(q:Int),.int .i64 k];rw [X] at Y;have bd:=V.lt;have be:=J.lt;have bf:=L.lt;have aZ:=Bk.ne J L dC;obtain ⟨M,a6,a5,a8,n,a7,ax⟩:=hqq7 ag J V L ab Y X;clear ag V J L ab Y X;go_enter func111,ntmps111;go_wp2_with fail;rw [ax.out];refine (aDp m f d O P q k w j a3 C _ (M.out.below n.out) (a6.out.alloc _) (aA.out.alloc _) (a5.out.alloc _) aS aT ay.out aw.out (au.out.below n.out aY) aF aH).mono ?_;rintro s u ⟨rfl,w1,t,ae,rfl⟩;obtain ⟨r,ai⟩:=((Vis.of_below n.out).trans t.1).waveC a8.out;have A:=ai.far (p:=⟨d,0,none⟩) (fun g=>aZ g.symm) (.int .i64 (j:Int));have aU:=M.out.vis ((Vis.of_below n.out).trans t.1);have z:TreeAt (w1.setCell ⟨d,0,none⟩ (.int .i64 (j:Int))) f w:=aB.out.vis (((av.out.trans (Vis.of_below n.out)).trans t.1).fresh (p:=⟨d,0,none⟩) aN _);obtain ⟨D,a2⟩:=z.visits;have v:=(t.1.bk a7.out dC dC).far (p:=⟨d,0,none⟩) (fun g=>absurd (show c.heap.size=d from g) oM) (.int .i64 (j:Int));have K:=ae.set 0 (.int .i64 (j:Int));have U:VisF (fun b=>b=d) c (w1.setCell ⟨d,0,none⟩ (.int .i64 (j:Int))):=VisF.put (F:=fun b=>b=d) (VisF.of_vis ((Vis.of_below n.out).trans t.1)) (p:=⟨d,0,none⟩) (.inl rfl) _;have W:Keep (fun b=>m<=b) c (w1.setCell ⟨d,0,none⟩ (.int .i64 (j:Int))):=Keep.setCell (F:=fun b=>m<=b) ((Keep.of_below n.out).trans t.2) (p:=⟨d,0,none⟩) (.inl aG) _;obtain ⟨G,aa⟩:=eqx (w1.setCell ⟨d,0,none⟩ (.int .i64 (j:Int)));rw [aa] at A z a2 v K U W⊢;have b1:G.cell? ⟨c.heap.size,0,none⟩=some (.pointer (some ⟨f,0,none⟩)):=(v.cell 0).trans rfl;obtain ⟨E,az,ar,ap,aq,aC,aE⟩:=hqq7 A v K U W z a2;have aW:=z.lt;have bc:=v.lt;have aQ:=Bk.ne A v dC;have aP:=Bk.ne A K dC;have aR:f≠a:=by rintro rfl;obtain ⟨bb,ak,⟨_,_,H⟩|⟨_,_,_,_,_,I⟩⟩:=aC.out;exact absurd (aM H E.out).1 dC;exact absurd (aM I.tree E.out).1 dC
 clear A v K U W z a2 aa ai aU ae t n M a6 a5 a8 a7 b1;go_wp2_with fail;refine wp_region_any kR ?_;refine bH [9,10,11,12,13,14,15,16,17,18] (fun b=>b=a) 10 [3,10] (fun u=>Bk u a 154 (wcells S B r)) (fun _ u=>Bk u a 154 (wcells S B (IntKind.i64.wrap (r+D)))) [is a,is a,is (.pointer (some ⟨a,10,none⟩)),is (.int .i64 r),is c.heap.size,is f,is (.int .i64 D),is (.int .i64 (IntKind.i64.wrap (r+D))),is a,is (.pointer (some ⟨a,10,none⟩)),cX] _ _ rfl kR kR (E.out) (fun u bi g _ aL=>Bk.below g aL g.lt) (fun _ _ _ g aX=>Bk.below g aX g.lt) tA0 ?_ ?_
 · refine aO ?_;refine pH3 0 (.pointer (some ⟨a,0,none⟩)) ?_;refine pV3 0 9 ?_;refine pV3 1 10 ?_;refine sC3 (fun _ l _ T _ _ _ o _ _ _ x=>?_) ?_
   · have y:=T rfl;have b5:_=_:=o 2 11 kR rfl;have b3:l.cell? ⟨a,10,none⟩=some (.int .i64 r):=(y.cell 10).trans (bI _ _ _).2.2.2.2.2.2.2.2.2.2;go_simp;exact kq x rfl
   refine pH3 4 (.pointer (some ⟨c.heap.size,0,none⟩)) ?_;refine pL3 4 13 (fun l e=>have e:Keep (fun b=>b=a) G l:=kD e;(((e.bk az.out (fun g=>aQ (show c.heap.size=a from g).symm)).cell 0).trans rfl:l.cell? ⟨c.heap.size,0,none⟩=some (.pointer (some ⟨f,0,none⟩)))) ?_;refine sC3 (fun _ l e _ _ _ _ o _ _ _ x=>?_) ?_
   · replace e:Keep (fun b=>b=a) G l:=kD e;have b6:_=_:=o 5 14 kR rfl;go_simp;refine (fK f D l ((e.cell aW aR).trans aE.out)).mono ?_;rintro s bj ⟨rfl,aK⟩;exact x _ _ (aJ aK) rfl
   refine pW3 3 12 6 15 ?_;refine pV3 0 9 ?_;refine pV3 8 17 ?_;refine sC3 (fun _ l _ T _ _ _ o _ _ _ x=>?_) ?_
   · have y:=T rfl;have b8:_=_:=o 9 18 kR rfl;have b7:_=_:=o 7 16 kR rfl;have b4:l.cell? ⟨a,10,none⟩=some (.int .i64 r):=(y.cell 10).trans (bI _ _ _).2.2.2.2.2.2.2.2.2.2;have ba:=y.frozen 10;go_simp;refine x (.bool true) _ (aV (Keep.setCell (F:=fun b=>b=a) (Keep.refl _ _) (p:=⟨a,10,none⟩) (.inl rfl) _)) ?_;rw [<-cM S B r];exact y.set 10 _
   exact aD
 · intro b9 al e o ac;replace e:Keep (fun b=>b=a) G al:=kD e;obtain ⟨bh,aj⟩:∃b2,(fun _ u=>Bk u a 154 (wcells S B (IntKind.i64.wrap (r+D)))) b2 al:=ac 10 dC;simp only [zqq];clear o ac;have ah:=Vis.of_wave e E.out aj;have a9:=VisF.trans ap.out (VisF.of_vis ah);have H:=aq.out.trans (e.mono fun b _ (s:b=a)=>by rw [s];exact aI);have I:=e.bk ar.out (fun s=>aP (show d=a from s).symm);obtain ⟨am,an,ao⟩:=hqq3 a9 H I;clear ah a9 H I aj e;go_wp2_with fail;go_end0;exact ⟨rfl,am.out,an.out,ao.out⟩
theorem VisF.waveC {d:Nat->Prop} {g j:World} {b:Nat} {S:Nat->Value} {e f:Int} (k:VisF d g j) (l:Bk g b 154 (wcells S e f)) (m:¬d b):∃c,Bk j b 154 (wcells S e c):=by
 rcases VisF.wave k l m with a |⟨c,a⟩;exact ⟨f,a⟩;rw [cM] at a;exact ⟨c,a⟩
def aKd (d:Value) (c:World):Nat:=match d with
 | .pointer (some a)=>match c.cell? a with
   | some b=>(intOf b+1).toNat
   | none=>0
 | _=>0
theorem aCO {b:World} {a:Addr} {c:Int} (d:b.cell? a=some (.int .i64 c)):aKd (.pointer (some a)) b=(c+1).toNat:=by
 show (match b.cell? a with | some e=>(intOf e+1).toNat | none=>0)=_;rw [d];rfl
theorem xU (m n:Nat) (k:List Nat) (t u c:Nat) (v:World) (f:WaveAt v m n k) (a7:k[t]?=some c) (a4:(k.take t).count c=u) (a2:∀x∈k,x < 257) (aU:k.length<=1000) (aL:TabW v) (aJ:1 < m):
 Calls prog 152 #[n,(u:Int),(c:Int)] v fun F c9=>F=.returned (.int .i64 (t:Int))/\VB m v c9:=by
 have W:=(zAc.1 a7).1;have ap:=(zAc.1 a7).2;have X:c < 257:=by rw [<-ap];exact a2 _ (zBj W)
 have ak:(k.take t).count c < k.count c:=by
  have cw:k.count c=(k.take (t+1)).count c+(k.drop (t+1)).count c:=by rw [<-zCc,zAu]
  have cx:(k.take (t+1)).count c=(k.take t).count c+1:=by rw [zAv,a7,zCc];simp
  omega
 have aI:=lH k t c (zCm W) a2 X;have af:=aAH k t c;rw [a4] at af ak;have aP:∀e,(aK k e (bC c e))[fN k t c e]?=some (fY c e):=fun e=>by have:=aBz k t e W;rw [ap] at this;exact this
 have b2:=f;obtain ⟨bM,S,cN,C,aY⟩:=f;obtain ⟨D,a6⟩:=eqx k.length;have an:(k.take D).count c=k.count c:=by rw [<-a6,List.take_length]
 obtain ⟨ax,aX⟩:=eqx (k.count c);rw [aX] at an ak;rw [a6] at C W;have bV:=C.lt;have bS:decide ((u:Int) < 0)=false:=by simp
 have T:=((Below.refl v.heap.size v).alloc nL (.cells #[(u:Int)] 3)).alloc (by simp) (.cells #[(c:Int)] 3);have H:=(Bk.new v 3 #[(u:Int)]).alloc (.cells #[(c:Int)] 3);have q:=Bk.new (v.alloc (.cells #[(u:Int)] 3)) 3 #[(c:Int)];rw [World.size_alloc] at q;obtain ⟨L,ah⟩:=eqx ((v.alloc (.cells #[(u:Int)] 3)).alloc (.cells #[(c:Int)] 3));obtain ⟨d,a3⟩:=eqx v.heap.size;obtain ⟨y,aS⟩:=eqx (d+1);rw [ah] at T H q;rw [a3] at H;rw [a3,aS] at q;have cK:=H.lt;have cL:=q.lt;obtain ⟨bq,b9,bA,ac,az,bw,bh,bb,bc⟩:=hqq9 af aI (b2.vis (Vis.of_below T)) (C.below T bV) C aY aP a2 a6;obtain ⟨bs,bv,br,be,a0,J,bg,bi,ca⟩:=hqq9 aU an (show ¬ax<=u by omega) aL H q ah T a3;have cb:=lhd aS;clear af aI b2 C aY aP a2 a6 an aX ak a4 a7 ap aL H q ah T aU W;go_enter func152,ntmps152;go_wp2_with fail;rw [bg.out];refine wp_region_any kR ?_;refine aQ [8,9,10,11,12,13,14,15,16,17,18,19,20,21,22,23,24] (VB m) (Vs [is n,is (.bool false),is (.bool false),is (u:Int),is (.bool false),is (.bool false),is (.bool false),is (u:Int),is n,is n,is n,is (.pointer (some ⟨n,9,none⟩)),is (D:Int),is (c:Int),is (ax:Int),is (.bool false),is (.bool false)]) _ _ rfl kR vR (fun _ _=>VisK.trans) (cV tA1) ?_ ?_
 · refine aO ?_;refine pH 0 (.pointer (some ⟨n,0,none⟩)) ?_;refine pV 0 8 ?_;refine pV 1 9 ?_;refine sG 10 false (fun o b a _ _ w _ _ _ _ j=>?_) ?_
   · have aC:o (.tmp 4)=.pointer (some ⟨d,0,none⟩):=w 4 kR;replace a:(VB m) L b:=bD a;have Z:b.cell? ⟨d,0,none⟩=some (.int .i64 (u:Int)):=((a.1.bk a0.out dC dC).cell 0).trans rfl;go_simp;exact j _ _ vR rfl
   refine gV 10 false 3 11 ?_;refine pW 2 10 4 12 ?_;refine pV 5 13 ?_;refine sG 14 false (fun o b a _ _ w _ _ _ _ j=>?_) ?_
   · have aC:o (.tmp 4)=.pointer (some ⟨d,0,none⟩):=w 4 kR;replace a:(VB m) L b:=bD a;have Z:b.cell? ⟨d,0,none⟩=some (.int .i64 (u:Int)):=((a.1.bk a0.out dC dC).cell 0).trans rfl;go_simp;exact j _ _ vR rfl
   refine gH 14 false 0 (.pointer (some ⟨n,0,none⟩)) ?_;refine gH 14 false 0 (.pointer (some ⟨n,0,none⟩)) ?_;refine gV 14 false 9 17 ?_;refine gV 14 false 10 18 ?_;refine sG 14 false (fun _ b a _ _ _ l _ _ _ j=>?_) ?_
   · have cj:_=_:=l 11 19 kR rfl;replace a:(VB m) L b:=bD a;obtain ⟨K,Y⟩:=a.1.waveC ac.out;have bH:b.cell? ⟨n,9,none⟩=some (.int .i64 (D:Int)):=(Y.cell 9).trans (bI S D K).2.2.2.2.2.2.2.2.2.1;go_simp;exact j _ _ vR rfl
   refine sG 14 false (fun o b a _ _ w _ _ _ _ j=>?_) ?_
   · have aE:o (.tmp 5)=.pointer (some ⟨y,0,none⟩):=w 5 kR;replace a:(VB m) L b:=bD a;have Z:b.cell? ⟨y,0,none⟩=some (.int .i64 (c:Int)):=((a.1.bk J.out dC dC).cell 0).trans rfl;go_simp;exact j _ _ vR rfl
   refine sG 14 false (fun _ b a _ _ _ l _ _ _ j=>?_) ?_
   · have ci:_=_:=l 8 16 kR rfl;have ck:_=_:=l 12 20 kR rfl;have cl:_=_:=l 13 21 kR rfl;replace a:(VB m) L b:=bD a;go_simp;refine (gT m n k D c b (bA.out.vis a.1) X (Nat.le_of_eq bc.out.symm) bb.out bs.out).mono ?_;rintro F b6 ⟨rfl,c0⟩;rw [bv.out];exact j _ _ c0 rfl
   refine sG 14 false (fun _ _ _ _ _ _ l _ _ _ j=>?_) ?_
   · have ch:_=_:=l 7 15 kR rfl;have cm:_=_:=l 14 22 kR rfl;have bT:=br.out;have cE:decide (ax<=u)=false:=zBy bT;go_simp;exact j _ _ vR rfl
   refine pW 6 14 15 23 ?_;exact aD
 · intro o z a l;replace a:(VB m) L z:=bD a;have bK:o (.tmp 24)=.bool false:=l 16 24 rfl;simp only [zqq];rw [bK];clear l;have ar:VB m v z:=(VisK.of_below (a3 ▸ bi.out)).trans a;have H:=a.1.bk a0.out dC dC;have q:=a.1.bk J.out dC dC;have bZ:=a.1.size;obtain ⟨ad,bP⟩:∃x,x=z:=⟨_,rfl⟩;subst bP;have aG:=Bk.new ad 3 #[.int .i64 8];have aR:=H.alloc (.cells #[.int .i64 8] 3);have al:=q.alloc (.cells #[.int .i64 8] 3);have aZ:=ar.alloc (.cells #[.int .i64 8] 3);obtain ⟨ba,bj,bm,bx⟩:=hqq4 aG aR al aZ;have cy:m<=d:=oM;have cC:v.heap.size<=ad.heap.size:=ar.1.size;clear aG aR al aZ H q a ar a0 J bS;go_wp2_with fail;go_loopw [7] (fun x wr=>∃(s B:Nat) (P:Int),B<=9/\P=(B:Int) - 1/\x=.pointer (some ⟨s,0,none⟩)/\Bk wr s 3 #[.int .i64 P]/\Bk wr d 3 #[.int .i64 ((fN k t c B:Nat):Int)]/\Bk wr y 3 #[(c:Int)]/\VB m v wr/\y < s) (fun x wr=>aKd x wr)
   case atStart=>exact ⟨ad.heap.size,9,8,by omega,by omega,rfl,ba.out,by rw [bq.out];exact bj.out,bm.out,bx.out,by omega⟩
   case round=>
    obtain ⟨s,c3,P,cG,c1,rfl,A,U,q,I,al⟩:=hrel;have aB:wr.cell? ⟨s,0,none⟩=some (.int .i64 P):=(A.cell 0).trans rfl;rcases c3 with _ | e
    · have c2:decide (P>=0)=false:=(by simp;omega);have bG:wr.cell? ⟨d,0,none⟩=some (.int .i64 ((fN k t c 0:Nat):Int)):=(U.cell 0).trans rfl;rw [b9.out] at bG;have Q:=lhd I;clear U q A I;go_wp2_with fail;go_ret;exact ⟨rfl,Q.out⟩
    · obtain rfl:P=(e:Int):=oM;have a5:e < 9:=oM;have c2:decide ((e:Int)>=0)=true:=(by simp);obtain ⟨ab,M,aq⟩:=bw.out e a5;obtain ⟨B,am⟩:=eqx (2 ^ e);obtain ⟨r,V⟩:=eqx (bC c e);have aW:r < B:=(by rw [<-am,<-V];exact lY c e X oM);rw [am] at M aq;obtain ⟨G,ae,ag,cH,cB⟩:=World.ownsRow.form M oM;rw [ag] at M;obtain ⟨x,a9⟩:=eqx (fN k t c e);obtain ⟨b7,aa⟩:=eqx (fN k t c (e+1));have av:=lI k t c e a5;have au:=bh.out e;rw [V,a9,aa] at av;rw [V,a9] at au;rw [aa] at U;have cI:(r:Int) < (B:Int):=oM;have aV:=I.1.own M dC dC;have cD:=M.lt;have aT:∀g,(Value.slice (some ⟨G,0,none⟩) B ae).ownBlock=some g->g≠d:=fun g aj=>by have cz:G=g:=(by simpa [Value.ownBlock] using aj);omega
      have bp:=lhd aT;clear aT;have a8:∃b5,Bk wr n 154 (wcells S D b5):=I.1.waveC az.out;obtain ⟨b5,a8⟩:=a8;have aM:=be.out.vb I aJ oM;have cJ:=I.1.size;obtain ⟨bF,bE,bt,ay,bu,bB,cc,Q,bd⟩:=hqq9 av au aV (aq r aW) V a9 aa I ag;obtain ⟨ac,bf,a1,J,bo,b8⟩:=hqq6 a8 aM A q U aB;obtain ⟨E,bQ⟩:∃x,x=wr:=⟨_,rfl⟩;subst bQ;clear M aq ag am V a9 aa av au I aV a8 aM A q U c1;go_wp2_with fail;refine wp_region_any kR ?_;refine cA m 14 [29,30,31,32,33,34,35,36,37,38,39,40,41,42] (fun g=>g=d) 13 [13] (fun O=>Bk O d 3 #[(b7:Int)]) (fun _ O=>Bk O d 3 #[(x:Int)]) [is n,is n,is (e:Int),is n,is n,is (.pointer (some ⟨n,e,none⟩)),is (.slice (some ⟨G,0,none⟩) B ae),is (c:Int),is (e:Int),is (r:Int),is (.pointer (some ⟨G,r*3,none⟩)),is (.agg #[.pointer (some ⟨ab r,0,none⟩),(e:Int),(r:Int)]),is (.func (.func 201) #[] #[d,y,s]),cX] _ _ rfl dC kR kR kR (bo.out) (fun w1 O f _ aw=>aw.1.bk f dC dC) (fun _ _ _ f aw=>aw.1.bk f dC dC) tA1 ?_ ?_
      · refine bJ ?_;refine pH3 0 (.pointer (some ⟨n,0,none⟩)) ?_;refine pH3 0 (.pointer (some ⟨n,0,none⟩)) ?_;refine sC3 (fun o b a _ _ _ w _ _ _ _ j=>?_) ?_
        · replace a:VFB m (fun g=>g=d) E b:=fD a;have aF:o (.tmp 7)=.pointer (some ⟨s,0,none⟩):=w 7 kR;have Z:b.cell? ⟨s,0,none⟩=some (.int .i64 (e:Int)):=((a.1.bk a1.out dC dC (fun f=>absurd (show s=d from f) oM)).cell 0).trans rfl;go_simp;exact j _ _ (aH vR) rfl
        refine pV3 1 30 ?_;refine pV3 3 32 ?_;refine sC3 (fun _ _ _ _ _ _ _ l _ _ _ j=>?_) ?_
        · have cp:_=_:=l 4 33 kR rfl;have co:_=_:=l 2 31 kR rfl;have cF:(e:Int) < 9:=oM;go_simp;exact j _ _ (aH vR) rfl
        refine sC3 (fun _ b a _ _ _ _ l _ _ _ j=>?_) ?_
        · replace a:VFB m (fun g=>g=d) E b:=fD a;have cq:_=_:=l 5 34 kR rfl;obtain ⟨K,Y⟩:=a.1.waveC ac.out (fun f=>absurd (show n=d from f) oM);have bH:b.cell? ⟨n,e,none⟩=some (.slice (some ⟨G,0,none⟩) B ae):=(Y.cell e).trans ((sY S D K e a5).trans (congrArg some bd.out));go_simp;exact j _ _ (aH vR) rfl
        refine sC3 (fun o b a _ _ _ w _ _ _ _ j=>?_) ?_
        · replace a:VFB m (fun g=>g=d) E b:=fD a;have aE:o (.tmp 5)=.pointer (some ⟨y,0,none⟩):=w 5 kR;have Z:b.cell? ⟨y,0,none⟩=some (.int .i64 (c:Int)):=((a.1.bk J.out dC dC (fun f=>absurd (show y=d from f) oM)).cell 0).trans rfl;go_simp;exact j _ _ (aH vR) rfl
        refine sC3 (fun o b a _ _ _ w _ _ _ _ j=>?_) ?_
        · replace a:VFB m (fun g=>g=d) E b:=fD a;have aF:o (.tmp 7)=.pointer (some ⟨s,0,none⟩):=w 7 kR;have Z:b.cell? ⟨s,0,none⟩=some (.int .i64 (e:Int)):=((a.1.bk a1.out dC dC (fun f=>absurd (show s=d from f) oM)).cell 0).trans rfl;go_simp;exact j _ _ (aH vR) rfl
        refine sC3 (fun _ b _ _ _ _ _ l _ _ _ j=>?_) ?_
        · have cr:_=_:=l 7 36 kR rfl;have cs:_=_:=l 8 37 kR rfl;go_simp;refine (kS c e b X oM).mono ?_;rintro F b6 ⟨rfl,ai⟩;rw [bu.out];exact j _ _ (aH (VisK.of_below ai)) rfl
        refine pW3 6 35 9 38 ?_;refine sC3 (fun _ b a _ _ _ _ l _ _ _ j=>?_) ?_
        · replace a:VFB m (fun g=>g=d) E b:=fD a;have ct:_=_:=l 10 39 kR rfl;have ao:=aA bt.out fun g cg aj C=>a.1.bk C dC dC (fun f=>absurd (show g=d from f) (bp.out g aj));obtain ⟨c5,c6,c7⟩:=fF ab e B r aW;have cd:b.cell? ⟨G,r*3,none⟩=_:=(World.ownsRow.cellAt ao (r*3) oM).trans c5;have ce:b.cell? ⟨G,r*3+1,none⟩=_:=(World.ownsRow.cellAt ao (r*3+1) oM).trans c6;have cf:b.cell? ⟨G,r*3+2,none⟩=_:=(World.ownsRow.cellAt ao (r*3+2) oM).trans c7;go_simp;exact j _ _ (aH vR) rfl
        refine sC3 (fun o _ _ _ _ _ w _ _ _ _ j=>?_) ?_
        · have aC:o (.tmp 4)=.pointer (some ⟨d,0,none⟩):=w 4 kR;have aE:o (.tmp 5)=.pointer (some ⟨y,0,none⟩):=w 5 kR;have aF:o (.tmp 7)=.pointer (some ⟨s,0,none⟩):=w 7 kR;go_simp;exact j _ _ (aH vR) rfl
        refine sC3 (fun _ b a bO _ _ _ l _ _ _ j=>?_) ?_
        · replace a:VFB m (fun g=>g=d) E b:=fD a;have bY:=bO rfl;have cn:_=_:=l 0 29 kR rfl;have cu:_=_:=l 11 40 kR rfl;have cv:_=_:=l 12 41 kR rfl;go_simp;have b1:Vis v b:=(VisF.trans (VisF.of_vis Q.out.1) a.1).to_vis (fun g C F=>by have:g=d:=F;omega);obtain ⟨K,Y⟩:∃K,Bk b n 154 (wcells S D K):=b1.waveC az.out;have q:=a.1.bk J.out dC dC (fun f=>absurd (show y=d from f) oM);have A:=a.1.bk a1.out dC dC (fun f=>absurd (show s=d from f) oM);have bN:TabW b:=fun u a4=>(a.2.cell (p:=⟨1,u,none⟩) (by show 1 < E.heap.size;omega) (by show ¬(1=d∨m<=1);omega)).trans (bf.out u a4);refine (aG7 m n (ab r) d y s S D K r e (aK k e r) x b7 c v b Y ay.out.2 b1 oM bY q A a5 X bE.out bF.out bN aJ bM ay.out.1 oM).mono ?_;rintro F b6 ⟨rfl,bR,bU,ai⟩;exact j _ _ (jQ ⟨bR,bU.mono fun g _ f=>.inr f⟩) ai
        exact aD
      · intro o z bL a l aN;replace a:VFB m (fun g=>g=d) E z:=fD a;obtain ⟨c8,b4⟩:=aN 13 dC;have b3:(fun _ O=>Bk O d 3 #[(x:Int)]) c8 z:=b4;clear b4 aN;simp only [zqq];clear l;change wpAny prog Region.Mode.any _ _ (0+bL) (bX 14 14) _ z;refine bW kR ?_;have q:=a.1.bk J.out dC dC (fun f=>absurd (show y=d from f) oM);have A:=a.1.bk a1.out dC dC (fun f=>absurd (show s=d from f) oM);have b0:VB m v z:=⟨(VisF.trans (VisF.of_vis Q.out.1) a.1).to_vis (fun g C F=>by have:g=d:=F;omega),Q.out.2.trans (a.2.mono fun g _ f=>by rcases f with f | f;(have:g=d:=f;omega);exact f)⟩;have bZ:=a.1.size;have aB:z.cell? ⟨s,0,none⟩=some (.int .i64 (e:Int)):=(A.cell 0).trans rfl;have cM:=A.lt;obtain ⟨bn,bl,bz⟩:=hqq3 q b3 b0;clear q A b0 a b3;go_wp2_with fail;refine ⟨⟨z.heap.size,e,(e:Int) - 1,by omega,rfl,rfl,Bk.new _ _ _,by rw [bB.out];exact bl.out.alloc _,bn.out.alloc _,bz.out.alloc _,by omega⟩,?_⟩;have c4:=((Bk.new z 3 #[.int .i64 ((e:Int) - 1)]).cell 0);rw [aCO (c4.trans rfl),aCO b8.out];omega
end
end Go.Proofs.YthldmddkfbijhaaGreatDoor
