/- Lemmas of the walk. Conditions: each its own. -/
import Derived.Test.YtnmapianpjamnaaGreatDoorPc19
import Derived.Test.YtnmapianpjamnaaGreatDoorPc20
import Derived.Test.YtnmapianpjamnaaGreatDoorProg
import Derived.Test.YtnmapianpjamnaaGreatDoorShl
import Derived.Test.YtnmapianpjamnaaGreatDoorShi
import Derived.Test.YtnmapianpjamnaaGreatDoorSht
set_option linter.all false
set_option maxRecDepth 100000
set_option maxHeartbeats 2000000
open Go.Proofs.Tryz
namespace Go.Proofs.YtnmapianpjamnaaGreatDoor
section
open Go.RowKit Go.Shelf
open Go.Sort (Holds PermIn SortedIn SWO heap_grow_old)
def aCD {e:World} {f base a c g k:Nat} {os:Array Obj} {d:Array Value} (b:Array (Fin (f+1))) (j:b.size=g) (i:Bk e a 3 d) (q:base<=a) (m:g<=c) (n:c<=maxLen) (o:d.size=c):
 (sortWorld (dP f) e a 0 k b os).ownsRow base 3 1 (.slice (some a) g c) g ((b.toList.map fun v=>v.val).map sv):=by
 have r:=i.lt;have s:(sortWorld (dP f) e a 0 k b os).heap[a]?=some (.cells (Go.Sort.putCells (dP f) 0 b d) 3 (0,0)):=by unfold sortWorld;rw [heap_grow_old _ _ (by show a < (e.heap.modify a _).size;simpa using r)];have p:e.heap[a]?=some (.cells d 3 (0,0)):=i;simp [Go.Sort.putRow,Go.Sort.mapBlock,Go.Sort.ahead,Array.getElem?_modify,p,Go.Sort.onCells]
 refine ⟨by simp [j],.inr ⟨a,c,_,rfl,q,s,m,n,by simp [Go.Sort.putCells,o],?_⟩⟩;rw [zBl];refine eM (by simp [j]) (by simp [Go.Sort.putCells];omega) fun l w=>?_;have t:l < d.size:=oM;have u:l < b.size:=oM;simp [Go.Sort.putCells,Array.getElem?_mapIdx,t,u,dP,sv,xZ]
def aBI {c:Nat} {a:List Nat} (d:∀b∈a,b < c+1):(dY c a).toList.map (fun f=>f.val)=a:=by
 unfold dY;rw [zCg]
 conv=>rhs;rw [<-List.map_id a]
 exact List.map_congr_left fun b e=>zBu (d b e)
def cfK (b:Nat) (a:Nat->Nat) (c d:Fin (b+1)):Int:=Lib.compareInt ((a c.val:Nat):Int) ((a d.val:Nat):Int)
def uZ (b:Nat) (a:Nat->Nat) (c d:Fin (b+1)):ltOf (cfK b a) c d=decide (a c.val < a d.val):=by
 unfold ltOf cfK;rw [decide_eq_decide,pK];omega
def aDR (a:Nat) (b:Nat->Nat):SWO (ltOf (cfK a b)) where
 irrefl x:=by rw [uZ];simp
 trans x y z h1 h2:=by
  rw [uZ,zCa] at*
  omega
 ntrans x y z h1 h2:=by
  rw [uZ,decide_eq_false_iff_not] at*
  omega
def xM {g:Nat} {c:List Nat} {f:Nat->Nat} {b:Array (Fin (g+1))} (v:∀C∈c,C < g+1) (q:PermIn 0 (dY g c).size (dY g c) b) (B:SortedIn (ltOf (cfK g f)) 0 (dY g c).size b) (z:c.Nodup) (x:∀a∈c,∀r∈c,f a=f r->a=r):
 (b.toList.map fun a=>a.val).Perm c/\(b.toList.map fun a=>a.val).Pairwise (fun s t=>f s < f t):=by
 have i:(b.toList.map fun a=>a.val).Perm c:=by have:=(qD q).map (fun a:Fin (g+1)=>a.val);rwa [aBI v] at this
 refine ⟨i,?_⟩;have A:(b.toList.map fun a=>a.val).Nodup:=i.nodup_iff.2 z;rw [zAr];intro d e j k n;have y:d < b.size:=by simpa using j
 have o:e < b.size:=by simpa using k
 have w:=B d e (zAp _) n (by rw [<-q.1];exact o);rw [uZ,decide_eq_false_iff_not,xZ _ _ y,xZ _ _ o] at w;have l:(b.toList.map fun a=>a.val)[d]=b[d].val:=by simp
 have m:(b.toList.map fun a=>a.val)[e]=b[e].val:=by simp
 have p:(b.toList.map fun a=>a.val)[d]≠(b.toList.map fun a=>a.val)[e]:=zAr.1 A d e j k n;have D:b[d].val∈c:=i.subset (by rw [<-l];exact zBj j);have E:b[e].val∈c:=i.subset (by rw [<-m];exact zBj k);rw [l,m] at p⊢;have F:f b[d].val≠f b[e].val:=fun u=>p (x _ D _ E u);omega
end
section
section
variable {S R : List Nat} {N : Nat}
def ush (b a:Nat):Nat:=if a < b then a else a - 1
def aCt (a b:Nat):ush a (sh a b)=b:=by
 unfold ush sh
 (repeat' split)<;> omega
def aAg {k a:Nat} (b:a≠k):sh k (ush k a)=a:=by
 unfold ush sh
 (repeat' split)<;> omega
def gS (a:List Nat) {b:Nat} (c:Nat) (d:b < a.length):(aC a b).getD c 0=a.getD (sh b c) 0:=by
 rw [aEm a d];unfold sh;split <;> rfl
def aEl (d:EndOk S (N+1)) {a:Nat} (f:a<=N):EndOk (aC S a) N:=by
 obtain ⟨e,b,c⟩:=d;have g:=bF S (k:=a) oM;refine ⟨by omega,?_,fun j i=>?_⟩;rw [gS _ _ oM];unfold sh;rw [zBw oM];exact b
 · rw [gS _ _ oM];refine c _ ?_;unfold sh;split <;> omega
def vG (l:R.Perm (List.range (N+1+1))) {b:Nat} (s:b<=N):(b::aC R (ro R b)).Perm R/\(aC R (ro R b)).Nodup/\(∀a∈R,a≠b->(aC R (ro R b))[aQ (ro R a) (ro R b)]?=some a)/\∀a,a∈aC R (ro R b)↔a∈R/\a≠b:=by
 have q:R.Nodup:=l.nodup_iff.2 List.nodup_range;have k:b∈R:=l.mem_iff.2 (zCi.2 oM);have i:=bI k;have p:=(zAc.1 i).1;have d:=dG i;have f:=d.nodup_iff.2 q;rw [List.nodup_cons] at f;refine ⟨d,f.2,fun a m r=>?_,fun a=>?_⟩;have j:=bI m;have t:ro R a≠ro R b:=fun e=>r (dN m k e);rw [cY _ p];unfold aQ;by_cases g:ro R b < ro R a;rw [zBx g,zBw oM,show ro R a - 1+1=ro R a by omega];exact j;rw [zBw g,zBx oM];exact j;constructor;intro c;exact ⟨d.mem_iff.1 (List.mem_cons_of_mem _ c),fun e=>f.1 (e ▸ c)⟩;rintro ⟨n,o⟩;rcases List.mem_cons.1 (d.mem_iff.2 n) with c | c;exact absurd c o;exact c
def aCQ (e:R.Perm (List.range (N+1+1))) {at_:Nat} (q:at_<=N):((aC R (ro R at_)).map (ush at_)).Perm (List.range (N+1))/\∀a,a<=N->ro ((aC R (ro R at_)).map (ush at_)) a=aQ (ro R (sh at_ a)) (ro R at_):=by
 obtain ⟨u,o,p,b⟩:=vG e q;have g:((aC R (ro R at_)).map (ush at_)).Nodup:=by refine List.pairwise_map.2 (o.imp_of_mem fun {c j} d s r l=>r ?_);have m:=aAg (k:=at_) ((b c).1 d).2;have n:=aAg (k:=at_) ((b j).1 s).2;rw [<-m,<-n,l]
 have f:∀a,a<=N->sh at_ a∈R:=fun a v=>e.mem_iff.2 (zCi.2 (by unfold sh;split <;> omega));refine ⟨(List.perm_ext_iff_of_nodup g List.nodup_range).2 fun i=>?_,fun a t=>?_⟩
 · rw [zAy,zCi];constructor
   · rintro ⟨c,d,rfl⟩;have:=zCi.1 (e.mem_iff.1 ((b c).1 d).1);have:=((b c).1 d).2;unfold ush;split <;> omega
   intro w;exact ⟨sh at_ i,(b _).2 ⟨f i oM,tE _ _⟩,aCt _ _⟩
 · refine eB g ?_;rw [zAf,p _ (f a t) (tE _ _)];show some (ush at_ (sh at_ a))=some a;rw [aCt]
def aC9 (w:IsSuf S R) (i:EndOk S (N+1)) {at_:Nat} (p:at_<=N):Near (aC S at_) ((aC R (ro R at_)).map (ush at_)) N at_:=by
 have j:=w.near i;have H:=i.len;obtain ⟨v,n⟩:=aCQ j.perm p;have k:∀a,a<=N+1->a∈R:=fun a d=>j.mem.2 d;have f:∀a,a<=N->sh at_ a<=N+1:=fun a d=>by unfold sh;split <;> omega
 have l:∀a b,a<=N->b<=N->(ro ((aC R (ro R at_)).map (ush at_)) a < ro ((aC R (ro R at_)).map (ush at_)) b↔ro R (sh at_ a) < ro R (sh at_ b)):=fun a b d e=>by rw [n a d,n b e];have J:ro R (sh at_ a)≠ro R at_:=fun g=>tE _ _ (dN (k _ (f a d)) (k at_ oM) g);have K:ro R (sh at_ b)≠ro R at_:=fun g=>tE _ _ (dN (k _ (f b e)) (k at_ oM) g);unfold aQ;split <;> split <;> omega
 refine ⟨aEl i p,v,fun a b d e A=>?_,fun a b d e D C E=>?_⟩;rw [gS _ _ oM,gS _ _ oM];exact j.first _ _ (f a d) (f b e) ((l a b d e).1 A)
 · have B:sh at_ a≠sh at_ b:=fun g=>D (aAh g);rw [l a b d e,j.cons _ _ (f a d) (f b e) B oM oM];unfold nX;rw [gS _ _ oM,gS _ _ oM];by_cases G:S.getD (sh at_ a) 0=S.getD (sh at_ b) 0
   · by_cases m:S.getD (sh at_ a) 0=0;have t:∀c,c<=N+1->S.getD c 0=0->c=N+1:=fun c r s=>Nat.le_antisymm r (zCo.1 fun z=>by have:=i.pos c z;omega);have L:=t _ (f a d) m;have M:=t _ (f b e) oM;omega
     · have q:∀c,c<=N->c+1≠at_->S.getD (sh at_ c) 0≠0->c < N/\sh at_ c+1=sh at_ (c+1):=fun c r I s=>by have x:sh at_ c≠N+1:=fun g=>s (by rw [g];exact i.last);have y:c < N:=(by rcases zBe c N with o | o;exact o;exfalso;apply x;unfold sh;rw [zBw oM];omega);refine ⟨y,?_⟩;unfold sh;split <;> split <;> omega
       obtain ⟨F,u⟩:=q a d C m;obtain ⟨b1,b2⟩:=q b e E oM;rw [u,b2,l (a+1) (b+1) oM oM]
   omega
def aBQ (f:R.Perm (List.range (N+1+1))) (s:EndOk S (N+1)) {at_:Nat} (A:at_<=N):aK (aC S at_) ((aC R (ro R at_)).map (ush at_))=aC ((aK S R).set (ro R (at_+1)) (bC S at_)) (ro R at_):=by
 have w:R.Nodup:=f.nodup_iff.2 List.nodup_range;have z:=s.len;have B:=bF S (k:=at_) oM;have v:∀a,a∈R->a<=N+1:=fun a i=>by have:=zCi.1 (f.mem_iff.1 i);omega
 have r:at_∈R:=f.mem_iff.2 (zCi.2 oM);have n:at_+1∈R:=f.mem_iff.2 (zCi.2 oM);have o:=(zAc.1 (bI r)).1;have x:∀a,a<=N+1->a≠at_->bC (aC S at_) (ush at_ a)=if a=at_+1 then bC S at_ else bC S a:=fun a C p=>by
  by_cases b:a=at_+1
  · subst b;rw [zBx rfl,show ush at_ (at_+1)=at_ by unfold ush;rw [zBw oM];omega];rcases at_ with _ | y;rw [bQ oM,bQ oM,gS _ _ oM];unfold sh;rw [zBw oM];congr 1;omega
    · rw [aU oM,aU oM,gS _ _ oM];unfold sh;rw [zBx oM]
  · rw [zBw b];rcases a with _ | a;rw [show ush at_ 0=0 by unfold ush;split <;> omega,bQ oM,bQ oM,gS _ _ oM];unfold sh;rw [zBw oM];congr 1;omega
    · by_cases m:a+1 < at_
      · rw [show ush at_ (a+1)=a+1 by unfold ush;rw [zBx m],aU oM,aU oM,gS _ _ oM];unfold sh;rw [zBx oM]
      · obtain ⟨g,rfl⟩:∃g,a=g+1:=⟨a - 1,by omega⟩;rw [show ush at_ (g+1+1)=g+1 by unfold ush;rw [zBw m];omega,aU oM,aU oM,gS _ _ oM];unfold sh;rw [zBw oM]
 unfold aK;rw [zCg];apply List.ext_getElem?;intro l;have u:ro R at_ < ((R.map (bC S)).set (ro R (at_+1)) (bC S at_)).length:=by simpa using o
 rw [zAf,cY _ o,cY _ u];have q:∀d,d≠ro R at_->Option.map (bC (aC S at_)∘ ush at_) R[d]?=((R.map (bC S)).set (ro R (at_+1)) (bC S at_))[d]?:=fun d t=>by
  rw [zBm,zAf];cases c:R[d]? with
  | none=>
    have:¬ro R (at_+1)=d:=fun e=>by rw [<-e,bI n] at c;cases c
    rw [zBw this];rfl
  | some a=>
    have i:=zAd c;have j:=eB w c;have p:a≠at_:=fun e=>t (by rw [<-j,e]);show some (bC (aC S at_) (ush at_ a))=_;rw [x a (v a i) p];by_cases b:a=at_+1
    · subst b;rw [zBx rfl,zBx j,zBx (by rw [j];simpa using (zAc.1 c).1)]
    rw [zBw b,zBw (fun e=>b ?_)];rfl;rw [<-e,bI n] at c;injection c with c;exact c.symm
 by_cases b:l < ro R at_;rw [zBx b,zBx b];exact q l oM;rw [zBw b,zBw b];exact q (l+1) oM
def aCw {c:List Nat} {a b s:Nat} (k:a < c.length) (l:a≠b):((aC (c.set b s) a).take (aQ b a)).count s+(if a < b/\c.getD a 0=s then 1 else 0)=(c.take b).count s:=by
 have g:(c.set b s).take b=c.take b:=by
  apply List.ext_getElem?;intro n;rw [zBs,zBs];split
  · rw [zBm,zBw oM]
  rfl
 unfold aQ;by_cases d:a < b
 · rw [zBx d];have i:(aC (c.set b s) a).take (b - 1)=aC (c.take b) a:=(by unfold aC;have e:((c.set b s).take a).length=a:=(by rw [zAj,zAt];omega);rw [List.take_append,e,List.take_take,Nat.min_eq_right oM,<-g,List.take_take,zCq oM,List.drop_take];congr 2;omega);rw [i];have m:a < (c.take b).length:=(by rw [zAj];omega);have j:(c.take b)[a]?=some (c.getD a 0):=(by rw [zBs,zBx d,zAb,zAa k];rfl);have:=(dG j).count_eq s;rw [<-this,List.count_cons];by_cases f:c.getD a 0=s
   · simp [d,f]
   · simp [d,f]
 · rw [zBw d,zBw oM,zBq];unfold aC;have e:((c.set b s).take a).length=a:=(by rw [zAj,zAt];omega);rw [List.take_append,e,show b - a=0 by omega,List.take_zero,List.append_nil,List.take_take,zCq oM,g]
end
section
variable {S R : List Nat} {N : Nat}
def aDV (k:EndOk S N) {a c:Nat} (o:a < N) (m:0 < c):EndOk (S.set a c) N:=by
 obtain ⟨g,i,j⟩:=k;have f:∀b,(S.set a c).getD b 0=if a=b/\b < S.length then c else S.getD b 0:=fun b=>by
  rw [zAb,zBm,zAb];by_cases d:a=b
  · subst d;by_cases e:a < S.length
    · simp [e]
    · simp [e]
  · simp [d]
 refine ⟨by rw [zAt,g],?_,fun n l=>?_⟩
 · rw [f,zBw oM,i]
 rw [f];split;exact m;exact j n l
def aCG (S:List Nat) {a s:Nat} (e:a < S.length) (b:Nat):(S.set a s).getD b 0=if b=a then s else S.getD b 0:=by
 rw [zAb,zBm,zAb];by_cases c:b=a
 · subst c;simp [e]
 · rw [zBw (fun d=>c d.symm),zBw c]
def KS (S R:List Nat) (c b a:Nat):Bool:=decide (S.getD a 0 < b∨(S.getD a 0=b/\ro R (a+1) < ro R (c+1)))
def xV (L:IsSuf S R) (m:EndOk S (N+1)) {c i:Nat} (Y:c<=N) (T:0 < i) {row:Nat} (Z:row<=N+1)
 (u:∀b,b<=N+1->b≠c->b+1≠c->(aQ (ro R b) (ro R c) < row↔KS S R c i b=true))
 (E:∀b,b+1=c->(aQ (ro R b) (ro R c) < row->S.getD b 0<=i)/\(row<=aQ (ro R b) (ro R c)->i<=S.getD b 0)):
 Near (S.set c i) (aI (aC R (ro R c)) row c) (N+1) c:=by
 have l:=L.near m;have X:=m.len;have O:=l.nodup;have k:∀a,a<=N+1->a∈R:=fun a d=>l.mem.2 d;have x:=l.len;have C:∀a b,a<=N+1->b<=N+1->a≠b->ro R a≠ro R b:=fun a b d e z p=>z (dN (k a d) (k b e) p);obtain ⟨J,D,r⟩:=pA O (t:=row) (bI (k c oM)) oM;obtain ⟨j,M⟩:∃j,aI (aC R (ro R c)) row c=j:=⟨_,rfl⟩;rw [M] at J D r⊢;have q:∀a b,a<=N+1->b<=N+1->a≠c->b≠c->(ro j a < ro j b↔ro R a < ro R b):=fun a b d e n I=>by rw [r a (k a d) n,r b (k b e) I];have v:=C a c d oM n;have W:=C b c e oM I;unfold inR aQ;split <;> split <;> split <;> split <;> omega
 have H:∀a,a<=N+1->a≠c->(ro j a < ro j c↔aQ (ro R a) (ro R c) < row):=fun a d n=>by rw [D,r a (k a d) n];unfold inR;split <;> omega
 have G:∀a,a<=N+1->a≠c->(ro j c < ro j a↔¬aQ (ro R a) (ro R c) < row):=fun a d n=>by rw [D,r a (k a d) n];unfold inR;split <;> omega
 have w:=aCG S (s:=i) (show c < S.length by omega);refine ⟨aDV m oM T,J.trans l.perm,fun a b d e B=>?_,fun a b d e z a0 a1=>?_⟩;rw [w,w];by_cases g:a=c;subst g;rw [zBx rfl];by_cases f:b=a;rw [zBx f];exact zAs _;rw [zBw f];have v:=(G b e f).1 B;by_cases o:b+1=a;exact (E b o).2 oM;have:=u b e f o;unfold KS at this;rw [zCa] at this;omega;rw [zBw g];by_cases f:b=c;subst f;rw [zBx rfl];have v:=(H a d g).1 B;by_cases o:a+1=b;exact (E a o).1 v;have:=(u a d g o).1 v;unfold KS at this;rw [zCa] at this;omega;rw [zBw f];exact l.first a b d e ((q a b d e g f).1 B)
 · have y:∀A,A<=N+1->S.getD A 0≠0->A < N+1:=fun A U V=>Nat.lt_of_le_of_ne U fun p=>by subst p;exact V m.last
   unfold nX;rw [w,w];by_cases g:a=c;subst g;have f:b≠a:=fun p=>z p.symm;rw [zBx rfl,zBw f,G b e f,u b e f oM];unfold KS;rw [zCa];by_cases F:S.getD b 0=i;have Q:=y b e oM;rw [q (a+1) (b+1) oM oM oM oM];have:=C (b+1) (a+1) oM oM oM;omega;omega
   · rw [zBw g];by_cases f:b=c
     · subst f;rw [zBx rfl,H a d g,u a d g oM];unfold KS;rw [zCa];by_cases F:S.getD a 0=i
       · have P:=y a d oM;rw [q (a+1) (b+1) oM oM oM oM]
       omega
     · rw [zBw f,q a b d e g f,l.cons a b d e z oM oM];unfold nX;by_cases F:S.getD a 0=S.getD b 0
       · by_cases K:S.getD a 0=0;have a2:a=N+1:=Nat.le_antisymm d (zCo.1 fun x=>by have:=m.pos a x;omega);have a3:b=N+1:=Nat.le_antisymm e (zCo.1 fun x=>by have:=m.pos b x;omega);omega
         · have P:=y a d K;have Q:=y b e oM;rw [q (a+1) (b+1) oM oM oM oM]
       omega
def aEW (I:IsSuf S R) (U:EndOk S (N+1)) {a s:Nat} (L:a<=N):(∀b,b<=N+1->b≠a->(aQ (ro R b) (ro R a) < (aC R (ro R a)).countP (KS S R a s)↔KS S R a s b=true))/\(aC R (ro R a)).countP (KS S R a s)<=N+1:=by
 have f:=I.near U;have a4:=f.nodup;have n:∀d,d<=N+1->d∈R:=fun d o=>f.mem.2 o;obtain ⟨G,t,u,H⟩:=vG f.perm L;have z:∀d b,d<=N+1->b<=N+1->d≠b->ro R d≠ro R b:=fun d b o q W k=>W (dN (n d o) (n b q) k);have B:∀ {e c:Nat},(aC R (ro R a))[e]?=some c->c<=N+1/\c≠a/\e=aQ (ro R c) (ro R a):=fun {e c} g=>by have j:=(H c).1 (zAd g);refine ⟨f.mem.1 j.1,j.2,?_⟩;have K:=u c j.1 j.2;obtain ⟨v,w⟩:=zAc.1 g;obtain ⟨x,y⟩:=zAc.1 K;rcases Nat.lt_trichotomy e (aQ (ro R c) (ro R a)) with b | b | b;exact absurd (by rw [w,y]) (zAr.1 t _ _ v x b);exact b;exact absurd (by rw [w,y]) (zAr.1 t _ _ x v b)
 have X:(aC R (ro R a)).Pairwise fun d b=>KS S R a s b=true->KS S R a s d=true:=by
  rw [zAr];intro e r M O a3 m;obtain ⟨c,g⟩:=eqx ((aC R (ro R a))[e]);obtain ⟨i,A⟩:=eqx ((aC R (ro R a))[r]);have Q:(aC R (ro R a))[e]?=some c:=by rw [zAa M,g]
  have T:(aC R (ro R a))[r]?=some i:=by rw [zAa O,A]
  rw [g];rw [A] at m;obtain ⟨C,a0,D⟩:=B Q;obtain ⟨E,a1,F⟩:=B T;have a5:=z c a C oM a0;have a6:=z i a E oM a1;have V:ro R c < ro R i:=by unfold aQ at D F;split at D <;> split at F <;> omega
  have Z:c≠i:=fun k=>by subst k;omega
  have P:=(f.cons c i C E Z oM oM).1 V;unfold nX at P;unfold KS at m⊢;rw [zCa] at m⊢;omega
 refine ⟨fun b q Y=>(uU X _ _ (u b (n b q) Y)).symm,?_⟩;have a2:=zBh (p:=KS S R a s) (l:=aC R (ro R a));have J:=G.length_eq;rw [zCf,f.len] at J;omega
def aEX (o:IsSuf S R) (g:EndOk S (N+1)) {a b:Nat} (q:a<=N) (v:0 < b):(aC R (ro R a)).countP (KS S R a b)+(if S.getD a 0 < b then 1 else 0)=(aK S R).countP (fun w=>decide (w < b))+(((aC ((aK S R).set (ro R (a+1)) b) (ro R a)).take (aQ (ro R (a+1)) (ro R a))).count b+if ro R a < ro R (a+1)/\bC S a=b then 1 else 0):=by
 have d:=o.near g;have A:=d.nodup;have f:∀c,c<=N+1->c∈R:=fun c u=>d.mem.2 u;obtain ⟨l,x,y,z⟩:=vG d.perm q;have i:=bI (f a oM);have r:ro R a < (aK S R).length:=by rw [eK];exact (zAc.1 i).1
 have t:ro R a≠ro R (a+1):=fun m=>by have:=dN (f a oM) (f (a+1) oM) m;omega
 have p:(aK S R).getD (ro R a) 0=bC S a:=by unfold aK;rw [zAb,zAf,i];rfl
 have k:=aCw (s:=b) r t;rw [p] at k;rw [k];have j:=mP g d.perm v (ro R (a+1));unfold eZ at j;rw [j];unfold vE;rw [<-d.perm.countP_eq,<-l.countP_eq,zBn];have n:(aC R (ro R a)).countP (fun c=>decide (S.getD c 0 < b∨(S.getD c 0=b/\ro R (c+1) < ro R (a+1))))=(aC R (ro R a)).countP (KS S R a b):=rfl;rw [n];congr 1;by_cases e:S.getD a 0 < b
 · rw [zBx e,zBx (zBz (.inl e))]
 rw [zBw e,zBw];rw [zCa];omega
def aDU (m:IsSuf S R) (k:EndOk S (N+1)) {c s:Nat} (q:c<=N) (w:0 < s) {n0 row:Nat} {a:Int} (D:a=if c=0 then -1 else ((aQ (ro R (c - 1)) (ro R c):Nat):Int))
 (M:n0+(if S.getD c 0 < s then 1 else 0)=(aK S R).countP (fun J=>decide (J < s))+((aC ((aK S R).set (ro R (c+1)) s) (ro R c)).take (aQ (ro R (c+1)) (ro R c))).count s)
 (n:row=if bC S c=s/\a<=(n0:Int) then n0+1 else n0):
 row<=N+1/\Near (S.set c s) (aI (aC R (ro R c)) row c) (N+1) c:=by
 have A:=m.near k;have r:∀d,d<=N+1->d∈R:=fun d f=>A.mem.2 f;have C:=k.len;have t:∀d b,d<=N+1->b<=N+1->d≠b->ro R d≠ro R b:=fun d b f g v e=>v (dN (r d f) (r b g) e);obtain ⟨o,x⟩:=aEW (s:=s) m k q;have E:=aEX m k q w;obtain ⟨l,G⟩:=eqx ((aC R (ro R c)).countP (KS S R c s));rw [G] at o x E;have hrel:n0+(if ro R c < ro R (c+1)/\bC S c=s then 1 else 0)=l:=oM;have F:(row=l)∨(∃b,b+1=c/\S.getD b 0=s/\aQ (ro R b) (ro R c)=l/\row=l+1):=by
  by_cases j:bC S c=s
  · have u:c≠0:=fun e=>by subst e;rw [bQ oM,C,zBb,k.last] at j;omega
    obtain ⟨b,rfl⟩:∃b,c=b+1:=⟨c - 1,by omega⟩;rw [aU oM] at j;rw [zBw u,zBb] at D;have g:=o b oM oM;unfold KS at g;rw [zCa,j] at g;rw [aU oM,j] at hrel n;by_cases p:ro R (b+1) < ro R (b+1+1);left;rw [zBx ⟨p,rfl⟩] at hrel;have:aQ (ro R b) (ro R (b+1)) < l:=g.2 (.inr ⟨rfl,p⟩);rw [zBx ⟨rfl,by omega⟩] at n;omega
    · rw [zBw (fun e=>p e.1)] at hrel;have K:¬aQ (ro R b) (ro R (b+1)) < l:=fun e=>by rcases g.1 e with z | z;omega;exact p z.2
      by_cases y:aQ (ro R b) (ro R (b+1))=l;right;rw [zBx ⟨rfl,by omega⟩] at n;exact ⟨b,rfl,j,y,by omega⟩;left;rw [zBw (fun e=>y oM)] at n;omega
  left;rw [zBw (fun e=>j e.2)] at hrel;rw [zBw (fun e=>j e.1)] at n;omega
 have H:∀d b,d<=N+1->b<=N+1->d≠c->b≠c->d≠b->aQ (ro R d) (ro R c)≠aQ (ro R b) (ro R c):=fun d b f g i I v=>by have U:=t d c f oM i;have V:=t b c g oM I;have W:=t d b f g v;unfold aQ;split <;> split <;> omega
 rcases F with rfl |⟨b,P,Q,T,rfl⟩;refine ⟨x,xV m k q w x (fun d f i _=>o d f i) (fun d i=>?_)⟩;have:=o d oM oM;unfold KS at this;rw [zCa] at this;omega;have L:aQ (ro R b) (ro R c) < N+1:=(by have u:=(zAc.1 (bI (r b oM))).1;have B:=(zAc.1 (bI (r c oM))).1;rw [A.len] at u B;have:=t b c oM oM oM;unfold aQ;split <;> omega);refine ⟨by omega,xV m k q w oM (fun d f i O=>?_) (fun d i=>?_)⟩;rw [<-o d f i];have:=H d b f oM i oM oM;omega;obtain rfl:d=b:=oM;omega
def aBO (f:R.Perm (List.range (N+1+1))) (n:EndOk S (N+1)) {b s row:Nat} (r:b<=N):aK (S.set b s) (aI (aC R (ro R b)) row b)=aI (aC ((aK S R).set (ro R (b+1)) s) (ro R b)) row (bC S b):=by
 have p:R.Nodup:=f.nodup_iff.2 List.nodup_range;have q:=n.len;have o:∀a,a∈R->a<=N+1:=fun a g=>by have:=zCi.1 (f.mem_iff.1 g);omega
 have i:b+1∈R:=f.mem_iff.2 (zCi.2 oM);have j:=aCG S (s:=s) (show b < S.length by omega);have k:∀a,a<=N+1->bC (S.set b s) a=if a=b+1 then s else bC S a:=fun a t=>by
  rcases a with _ | a
  · rw [zBw oM,bQ (by rw [zAt];omega),bQ oM,zAt,j,zBw oM]
  · rw [aU (by rw [zAt];omega),aU oM,j];by_cases d:a=b
    · rw [zBx d,zBx oM]
    · rw [zBw d,zBw oM]
 unfold aK;rw [jV,mV,k b oM,zBw oM];congr 2;apply List.ext_getElem?;intro m;rw [zAf,zBm,zAf];cases c:R[m]? with
 | none=>
   have:¬ro R (b+1)=m:=fun e=>by rw [<-e,bI i] at c;cases c
   rw [zBw this];rfl
 | some a=>
   have g:=zAd c;have l:=eB p c;show some (bC (S.set b s) a)=_;rw [k a (o a g)];by_cases d:a=b+1
   · subst d;rw [zBx rfl,zBx l,zBx (by rw [l];simpa using (zAc.1 c).1)]
   rw [zBw d,zBw (fun e=>d ?_)];rfl;rw [<-e,bI i] at c;injection c with c;exact c.symm
end
end
section
open Go.RowKit
def TpAt (j:World) (e f:Nat) (a:List UInt8) (i:Nat):Prop:=
 ∃d gk g c,IsSuf (aY a) d/\LiveG j e f gk g i (a.length+1) (aK (aY a) d) c/\(∀b∈c,d[b.1]?=some b.2)/\(∃b∈c,b.2=0)/\a.length<=895
def TpAt.vis {e w':World} {a b:Nat} {d:List UInt8} {c:Nat} (g:TpAt e a b d c) (l:Vis e w'):TpAt w' a b d c:=by
 obtain ⟨n,gk,f,m,i,j,k⟩:=g;exact ⟨n,gk,f,m,i,j.vis l,k⟩
def VB.grow {l:Nat} {k w1 m:World} (b:VB l k w1) (a:Below k.heap.size w1 m):VB l k m:=
 ⟨⟨a.os.trans b.1.os,a.tape.trans b.1.tape,a.output.trans b.1.output,zAk b.1.size a.size,fun d c i=>by
   rcases b.1.block d c i with n |⟨e,j,f,g⟩|⟨e,j,f,g⟩;exact .inl ((a.block d c).trans n);exact .inr (.inl ⟨e,j,f,g.below a c⟩)
   · exact .inr (.inr ⟨e,j,f,g.below a c⟩)⟩,
  ⟨a.os.trans b.2.os,a.tape.trans b.2.tape,a.output.trans b.2.output,zAk b.2.size a.size,fun d c i=>(a.block d c).trans (b.2.block d c i)⟩⟩
def TpAt.mono {e:World} {B a b:Nat} {d:List UInt8} {c:Nat} (g:TpAt e B b d c) (hB:a<=B):TpAt e a b d c:=by
 obtain ⟨m,gk,f,l,i,j,k⟩:=g;exact ⟨m,gk,f,l,i,j.mono hB,k⟩
end
section
open Go.RowKit Go.Shelf
def sT (A:Nat) (l:Option Addr) (b i a:Nat) (f:List Nat) (e:World) (v:e.ownsRow A 3 1 (.slice l b i) b (f.map sv)) (a0:a < b) (a1:b<=1000000):
 Calls prog 229 #[.slice l b i,(a:Int),.int .i64 ((a+1:Nat):Int)] e fun p z=>p=.returned (.slice l (b - 1) i)/\z.ownsRow A 3 1 (.slice l (b - 1) i) (b - 1) ((aC f a).map sv)/\Keep (fun r=>(Value.slice l b i).ownBlock=some r) e z:=by
 have F:f.length=b:=by have:=v.1;simpa using this
 obtain ⟨j,a4,s,_,Z⟩:=World.ownsRow.form v oM;injection s with s _ e3;subst s e3;obtain ⟨I,B,W,a2,G,J,M⟩:=nU v oM;obtain ⟨d,y⟩:∃d:List Int,f.map (fun V=>((V:Nat):Int))=d:=⟨_,rfl⟩;have x:d.length=b:=by rw [<-y,zBc,F]
 have U:f.map sv=d.map (Value.int .i64):=by rw [<-y,zCg];rfl
 have K:Sort.Holds (Value.int .i64) e j 0 d.toArray:=holds_of_blockI B (by
  refine eM (by simp) oM fun c u=>?_;rw [M c oM,U])
 have t:=Any.slices_Delete_int shDel j 0 i a (a+1) d e K oM (by unfold maxLen at G;omega) oM oM;rw [x] at t;have Y:(aC f a).length+1=b:=by rw [bF _ oM,F]
 have X:(aC d a).length+1=b:=by rw [bF _ oM,x]
 obtain ⟨o,q⟩:=eqx (d.take a++d.drop (a+1)++List.replicate (a+1 - a) 0);have a3:o.length=b:=by rw [<-q];simp [x];omega
 have Q:∀c,c < b - 1->o[c]?=(aC d a)[c]?:=fun c u=>by rw [<-q];show ((aC d a)++List.replicate (a+1 - a) 0)[c]?=_;rw [zAn oM]
 rw [q] at t;clear q;refine t.mono ?_;rintro p z ⟨rfl,H,rfl⟩;have k:=grownBy_sortedI (w:=e) (g:=j) (n:=H) (os:=#[]) o.toArray;have C:=heap_sortedI (w:=e) (g:=j) (n:=H) (os:=#[]) o.toArray B;rw [Go.Sort.grow_empty] at k C;refine ⟨by rw [show a+1 - a=1 by omega],⟨by rw [zBc,zBl];omega,.inr ⟨j,i,_,rfl,J,C,by omega,G,by simp [Go.Sort.putCells];omega,?_⟩⟩,⟨k.os,k.tape,k.output,k.size,fun r L P=>k.block r L fun p=>P p.symm⟩⟩;rw [zBl];refine eM (by rw [zBc];omega) (by simp [Go.Sort.putCells];omega) fun c u=>?_;have D:c < (aC f a).length:=oM;have T:(aC d a)[c]?=some (((aC f a)[c]:Nat):Int):=by rw [<-y,<-mV,zAf,zAa D];rfl
 rw [zAf,zAa D];have m:=Q c u;rw [T] at m;have O:c < I.size:=oM;have E:c < o.length:=oM;rw [zAa E] at m;injection m with m;simp [Go.Sort.putCells,Array.getElem?_mapIdx,O,E,m,sv]
end
section
open Go.RowKit
def vI {a:List Nat} {c b:Nat} (d:a[c]?=some b):(a.take c).count b < a.count b:=by
 have e:a.count b=(a.take (c+1)).count b+(a.drop (c+1)).count b:=by rw [<-zCc,zAu]
 have f:(a.take (c+1)).count b=(a.take c).count b+1:=by rw [zAv,d,zCc];simp
 omega
def sH (j gk:Nat) (a:List Nat) (g c b:Nat) (d:World) (l:WalkAt d j gk a) (f:a[g]?=some b) (r:eZ a b g=c) (p:∀i∈a,i < 257) (u:a.length<=1000):
 Calls prog 133 #[gk,(c:Int)] d fun e v=>e=.returned (.int .i64 (b:Int))/\Below d.heap.size d v:=by
 have E:b < 257:=p _ (zAd f);have q:=vI f;have s:a.countP (fun i=>decide (i < b))+(a.take g).count b=c:=r;have t:c < a.length:=by have:=aBe a b a.length;unfold eZ at this;rw [List.take_length] at this;omega
 have o:=l;obtain ⟨G,B,m,C,n⟩:=l;have F:=m.cell 1;obtain ⟨w,x,k,y,z,A⟩:=hqq6 o n s q t u;clear o m C n s q r t p u f;go_enter func133,ntmps133;go_wp2_with fail;refine (rD j gk a c d w.out z.out).mono ?_;rintro e w1 ⟨rfl,rfl⟩;go_wp2_with fail;refine (rI B a c b _ x.out E (by have:=k.out;omega) (by have:=k.out;have:=y.out;omega) A.out).mono ?_;rintro e v ⟨rfl,D⟩;go_wp2_with fail;go_ret;exact ⟨rfl,D⟩
def rC (c gk:Nat) (e:List Nat) (f j b:Nat) (l:World) (w:WalkAt l c gk e) (s:e[f]?=some b) (z:eZ e b f=j) (q:∀A∈e,A < 257) (t:e.length<=1000) (G:TabW l) (y:0 < c):
 Calls prog 96 #[gk,(j:Int)] l fun p a6=>p=.returned (.int .i64 (f:Int))/\VB c l a6:=by
 have a3:b < 257:=q _ (zAd s);have I:=sH c gk e f j b l w s z q t;obtain ⟨k,u⟩:∃k,e.countP (fun A=>decide (A < b))=k:=⟨_,rfl⟩;obtain ⟨n,r⟩:=eqx ((e.take f).count b);have J:k+n=j:=by rw [<-u,<-r];exact z
 have ah:k<=1000:=by rw [<-u];exact zAk zBh t
 have ai:n<=1000:=by rw [<-r];exact zAk zBv (by rw [zAj];omega)
 have F:=w;obtain ⟨v,ag,x,E,a1⟩:=w;have aj:=x.lt;obtain ⟨K,L,O,V,Q,D,X,U,W⟩:=hqq9 F x E s q t u r J;have B:=lhd G;clear F x E a1 s q t u r z J G;have ak:decide ((b:Int) < 0)=false:=by simp
 go_enter func96,ntmps96;go_wp2_with fail;refine I.mono ?_;rintro p m ⟨rfl,H⟩;clear I;have i:VB c l m:=VisK.of_below H;obtain ⟨T,M,P,C⟩:=hqq4 (K.out.vis i.1) (i.1.bk L.out dC dC) (O.out.vis i.1) (B.out.vb i y B.out.pos);have al:=i.1.size;have Y:=lhd i;clear i H;go_wp2_with fail;refine wp_region_any kR ?_;refine cJ [11,12,13,14,15,16,17,18,19,20,21,4] (VB c) (Vs [is gk,is gk,is gk,is v,is (j:Int),is gk,is (b:Int),is (k:Int),is (n:Int),is (b:Int),is (f:Int),is (f:Int)]) _ _ rfl kR vR (fun _ _=>VisK.trans) (eE tA1) ?_ ?_
 · refine aZ ?_;refine pH 0 (.pointer (some gk)) ?_;refine pV 0 11 ?_;refine pV 1 12 ?_;refine pL 2 13 (fun g a=>have a:(VB c) m g:=bD a;(((a.1.bk M.out dC dC).cell 0).trans rfl:g.cell? gk=some (.pointer (some v)))) ?_;refine pH 1 (.int .i64 (j:Int)) ?_;refine pH 0 (.pointer (some gk)) ?_;refine pH 5 (.int .i64 (b:Int)) ?_;refine sC (fun _ g a _ _ _ d _ _ _ o=>?_) ?_
   · have ab:_=_:=d 5 16 kR rfl;have ac:_=_:=d 6 17 kR rfl;replace a:(VB c) m g:=bD a;go_simp;refine (lK c gk e b g (T.out.vis a.1) a3 D.out).mono ?_;rintro p a8 ⟨rfl,a2⟩;rw [X.out];exact o _ _ (VisK.of_below a2) rfl
   refine sC (fun _ _ _ _ _ _ d _ _ _ o=>?_) ?_
   · have aa:_=_:=d 4 15 kR rfl;have ad:_=_:=d 7 18 kR rfl;have am:IntKind.i64.wrap ((j:Int) -(k:Int))=(n:Int):=(by rw [IntKind.wrap_i64];have:=W.out;omega);go_simp;exact o _ _ vR rfl
   refine pH 5 (.int .i64 (b:Int)) ?_;refine sC (fun _ g a _ _ _ d _ _ _ o=>?_) ?_
   · have a9:_=_:=d 3 14 kR rfl;have ae:_=_:=d 8 19 kR rfl;have af:_=_:=d 9 20 kR rfl;replace a:(VB c) m g:=bD a;go_simp;refine (qZ c v e f n b g (P.out.vis a.1) V.out U.out Q.out D.out (C.out.vb a y C.out.pos) y).mono ?_;rintro p a8 ⟨rfl,a5⟩;exact o _ _ a5 rfl
   refine pV 10 21 ?_;exact aH
 · intro a0 a7 a d;replace a:(VB c) m a7:=bD a;have Z:a0 (.tmp 4)=.int .i64 (f:Int):=d 11 4 rfl;simp only [zqq];rw [Z];clear d;have a4:=Y.out.trans a;go_wp2_with fail;go_ret;exact ⟨rfl,a4⟩
end
end Go.Proofs.YtnmapianpjamnaaGreatDoor
