/- Lemmas of the walk. Conditions: each its own. -/
import Derived.Test.YthldmddkfbijhaaGreatDoorPsl12
import Derived.Test.YthldmddkfbijhaaGreatDoorPsl13
import Derived.Test.YthldmddkfbijhaaGreatDoorPsl14
import Derived.Test.YthldmddkfbijhaaGreatDoorProg
import Derived.Test.YthldmddkfbijhaaGreatDoorShl
import Derived.Test.YthldmddkfbijhaaGreatDoorSht
set_option linter.all false
set_option maxRecDepth 100000
set_option maxHeartbeats 4000000
open Go.Proofs.Tryz
namespace Go.Proofs.YthldmddkfbijhaaGreatDoor
section
section
variable {S R : List Nat} {N : Nat}
def ush (b a:Nat):Nat:=if a < b then a else a - 1
def aG2 (a b:Nat):ush a (sh a b)=b:=by
 unfold ush sh
 (repeat' split)<;> omega
def aDZ {k a:Nat} (b:a≠k):sh k (ush k a)=a:=by
 unfold ush sh
 (repeat' split)<;> omega
def jQ (a:List Nat) {b:Nat} (c:Nat) (d:b < a.length):(aF a b).getD c 0=a.getD (sh b c) 0:=by
 rw [aJs a d];unfold sh;split <;> rfl
def aJr (d:EndOk S (N+1)) {a:Nat} (f:a<=N):EndOk (aF S a) N:=by
 obtain ⟨e,b,c⟩:=d;have g:=dE S (k:=a) oM;refine ⟨by omega,?_,fun j i=>?_⟩;rw [jQ _ _ oM];unfold sh;rw [zBw oM];exact b
 · rw [jQ _ _ oM];refine c _ ?_;unfold sh;split <;> omega
def aBc (l:R.Perm (List.range (N+1+1))) {b:Nat} (s:b<=N):(b::aF R (ro R b)).Perm R/\(aF R (ro R b)).Nodup/\(∀a∈R,a≠b->(aF R (ro R b))[aW (ro R a) (ro R b)]?=some a)/\∀a,a∈aF R (ro R b)↔a∈R/\a≠b:=by
 have q:R.Nodup:=l.nodup_iff.2 List.nodup_range;have k:b∈R:=l.mem_iff.2 (zCj.2 oM);have i:=cG k;have p:=(zAc.1 i).1;have d:=eM i;have f:=d.nodup_iff.2 q;rw [List.nodup_cons] at f;refine ⟨d,f.2,fun a m r=>?_,fun a=>?_⟩;have j:=cG m;have t:ro R a≠ro R b:=fun e=>r (eV m k e);rw [dZ _ p];unfold aW;by_cases g:ro R b < ro R a;rw [zBx g,zBw oM,show ro R a - 1+1=ro R a by omega];exact j;rw [zBw g,zBx oM];exact j;constructor;intro c;exact ⟨d.mem_iff.1 (List.mem_cons_of_mem _ c),fun e=>f.1 (e ▸ c)⟩;rintro ⟨n,o⟩;rcases List.mem_cons.1 (d.mem_iff.2 n) with c | c;exact absurd c o;exact c
def aHA (e:R.Perm (List.range (N+1+1))) {at_:Nat} (q:at_<=N):((aF R (ro R at_)).map (ush at_)).Perm (List.range (N+1))/\∀a,a<=N->ro ((aF R (ro R at_)).map (ush at_)) a=aW (ro R (sh at_ a)) (ro R at_):=by
 obtain ⟨u,o,p,b⟩:=aBc e q;have g:((aF R (ro R at_)).map (ush at_)).Nodup:=by refine List.pairwise_map.2 (o.imp_of_mem fun {c j} d s r l=>r ?_);have m:=aDZ (k:=at_) ((b c).1 d).2;have n:=aDZ (k:=at_) ((b j).1 s).2;rw [<-m,<-n,l]
 have f:∀a,a<=N->sh at_ a∈R:=fun a v=>e.mem_iff.2 (zCj.2 (by unfold sh;split <;> omega));refine ⟨(List.perm_ext_iff_of_nodup g List.nodup_range).2 fun i=>?_,fun a t=>?_⟩
 · rw [zAy,zCj];constructor
   · rintro ⟨c,d,rfl⟩;have:=zCj.1 (e.mem_iff.1 ((b c).1 d).1);have:=((b c).1 d).2;unfold ush;split <;> omega
   intro w;exact ⟨sh at_ i,(b _).2 ⟨f i oM,aAd _ _⟩,aG2 _ _⟩
 · refine fR g ?_;rw [zAf,p _ (f a t) (aAd _ _)];show some (ush at_ (sh at_ a))=some a;rw [aG2]
def aH1 (w:IsSuf S R) (i:EndOk S (N+1)) {at_:Nat} (p:at_<=N):Near (aF S at_) ((aF R (ro R at_)).map (ush at_)) N at_:=by
 have j:=w.near i;have H:=i.len;obtain ⟨v,n⟩:=aHA j.perm p;have k:∀a,a<=N+1->a∈R:=fun a d=>j.mem.2 d;have f:∀a,a<=N->sh at_ a<=N+1:=fun a d=>by unfold sh;split <;> omega
 have l:∀a b,a<=N->b<=N->(ro ((aF R (ro R at_)).map (ush at_)) a < ro ((aF R (ro R at_)).map (ush at_)) b↔ro R (sh at_ a) < ro R (sh at_ b)):=fun a b d e=>by rw [n a d,n b e];have J:ro R (sh at_ a)≠ro R at_:=fun g=>aAd _ _ (eV (k _ (f a d)) (k at_ oM) g);have K:ro R (sh at_ b)≠ro R at_:=fun g=>aAd _ _ (eV (k _ (f b e)) (k at_ oM) g);unfold aW;split <;> split <;> omega
 refine ⟨aJr i p,v,fun a b d e A=>?_,fun a b d e D C E=>?_⟩;rw [jQ _ _ oM,jQ _ _ oM];exact j.first _ _ (f a d) (f b e) ((l a b d e).1 A)
 · have B:sh at_ a≠sh at_ b:=fun g=>D (aD0 g);rw [l a b d e,j.cons _ _ (f a d) (f b e) B oM oM];unfold sW;rw [jQ _ _ oM,jQ _ _ oM];by_cases G:S.getD (sh at_ a) 0=S.getD (sh at_ b) 0
   · by_cases m:S.getD (sh at_ a) 0=0;have t:∀c,c<=N+1->S.getD c 0=0->c=N+1:=fun c r s=>Nat.le_antisymm r (zCr.1 fun z=>by have:=i.pos c z;omega);have L:=t _ (f a d) m;have M:=t _ (f b e) oM;omega
     · have q:∀c,c<=N->c+1≠at_->S.getD (sh at_ c) 0≠0->c < N/\sh at_ c+1=sh at_ (c+1):=fun c r I s=>by have x:sh at_ c≠N+1:=fun g=>s (by rw [g];exact i.last);have y:c < N:=(by rcases zBe c N with o | o;exact o;exfalso;apply x;unfold sh;rw [zBw oM];omega);refine ⟨y,?_⟩;unfold sh;split <;> split <;> omega
       obtain ⟨F,u⟩:=q a d C m;obtain ⟨b1,b2⟩:=q b e E oM;rw [u,b2,l (a+1) (b+1) oM oM]
   omega
def aGm (f:R.Perm (List.range (N+1+1))) (s:EndOk S (N+1)) {at_:Nat} (A:at_<=N):aE (aF S at_) ((aF R (ro R at_)).map (ush at_))=aF ((aE S R).set (ro R (at_+1)) (bK S at_)) (ro R at_):=by
 have w:R.Nodup:=f.nodup_iff.2 List.nodup_range;have z:=s.len;have B:=dE S (k:=at_) oM;have v:∀a,a∈R->a<=N+1:=fun a i=>by have:=zCj.1 (f.mem_iff.1 i);omega
 have r:at_∈R:=f.mem_iff.2 (zCj.2 oM);have n:at_+1∈R:=f.mem_iff.2 (zCj.2 oM);have o:=(zAc.1 (cG r)).1;have x:∀a,a<=N+1->a≠at_->bK (aF S at_) (ush at_ a)=if a=at_+1 then bK S at_ else bK S a:=fun a C p=>by
  by_cases b:a=at_+1
  · subst b;rw [zBx rfl,show ush at_ (at_+1)=at_ by unfold ush;rw [zBw oM];omega];rcases at_ with _ | y;rw [bV oM,bV oM,jQ _ _ oM];unfold sh;rw [zBw oM];congr 1;omega
    · rw [aX oM,aX oM,jQ _ _ oM];unfold sh;rw [zBx oM]
  · rw [zBw b];rcases a with _ | a;rw [show ush at_ 0=0 by unfold ush;split <;> omega,bV oM,bV oM,jQ _ _ oM];unfold sh;rw [zBw oM];congr 1;omega
    · by_cases m:a+1 < at_
      · rw [show ush at_ (a+1)=a+1 by unfold ush;rw [zBx m],aX oM,aX oM,jQ _ _ oM];unfold sh;rw [zBx oM]
      · obtain ⟨g,rfl⟩:∃g,a=g+1:=⟨a - 1,by omega⟩;rw [show ush at_ (g+1+1)=g+1 by unfold ush;rw [zBw m];omega,aX oM,aX oM,jQ _ _ oM];unfold sh;rw [zBw oM]
 unfold aE;rw [zCh];apply List.ext_getElem?;intro l;have u:ro R at_ < ((R.map (bK S)).set (ro R (at_+1)) (bK S at_)).length:=by simpa using o
 rw [zAf,dZ _ o,dZ _ u];have q:∀d,d≠ro R at_->Option.map (bK (aF S at_)∘ ush at_) R[d]?=((R.map (bK S)).set (ro R (at_+1)) (bK S at_))[d]?:=fun d t=>by
  rw [zBm,zAf];cases c:R[d]? with
  | none=>
    have:¬ro R (at_+1)=d:=fun e=>by rw [<-e,cG n] at c;cases c
    rw [zBw this];rfl
  | some a=>
    have i:=zAd c;have j:=fR w c;have p:a≠at_:=fun e=>t (by rw [<-j,e]);show some (bK (aF S at_) (ush at_ a))=_;rw [x a (v a i) p];by_cases b:a=at_+1
    · subst b;rw [zBx rfl,zBx j,zBx (by rw [j];simpa using (zAc.1 c).1)]
    rw [zBw b,zBw (fun e=>b ?_)];rfl;rw [<-e,cG n] at c;injection c with c;exact c.symm
 by_cases b:l < ro R at_;rw [zBx b,zBx b];exact q l oM;rw [zBw b,zBw b];exact q (l+1) oM
def aG9 {c:List Nat} {a b s:Nat} (k:a < c.length) (l:a≠b):((aF (c.set b s) a).take (aW b a)).count s+(if a < b/\c.getD a 0=s then 1 else 0)=(c.take b).count s:=by
 have g:(c.set b s).take b=c.take b:=by
  apply List.ext_getElem?;intro n;rw [zBs,zBs];split
  · rw [zBm,zBw oM]
  rfl
 unfold aW;by_cases d:a < b
 · rw [zBx d];have i:(aF (c.set b s) a).take (b - 1)=aF (c.take b) a:=(by unfold aF;have e:((c.set b s).take a).length=a:=(by rw [zAj,zAt];omega);rw [List.take_append,e,List.take_take,Nat.min_eq_right oM,<-g,List.take_take,zCt oM,List.drop_take];congr 2;omega);rw [i];have m:a < (c.take b).length:=(by rw [zAj];omega);have j:(c.take b)[a]?=some (c.getD a 0):=(by rw [zBs,zBx d,zAb,zAa k];rfl);have:=(eM j).count_eq s;rw [<-this,List.count_cons];by_cases f:c.getD a 0=s
   · simp [d,f]
   · simp [d,f]
 · rw [zBw d,zBw oM,zBq];unfold aF;have e:((c.set b s).take a).length=a:=(by rw [zAj,zAt];omega);rw [List.take_append,e,show b - a=0 by omega,List.take_zero,List.append_nil,List.take_take,zCt oM,g]
end
section
variable {S R : List Nat} {N : Nat}
def aI3 (k:EndOk S N) {a c:Nat} (o:a < N) (m:0 < c):EndOk (S.set a c) N:=by
 obtain ⟨g,i,j⟩:=k;have f:∀b,(S.set a c).getD b 0=if a=b/\b < S.length then c else S.getD b 0:=fun b=>by
  rw [zAb,zBm,zAb];by_cases d:a=b
  · subst d;by_cases e:a < S.length
    · simp [e]
    · simp [e]
  · simp [d]
 refine ⟨by rw [zAt,g],?_,fun n l=>?_⟩
 · rw [f,zBw oM,i]
 rw [f];split;exact m;exact j n l
def aHq (S:List Nat) {a s:Nat} (e:a < S.length) (b:Nat):(S.set a s).getD b 0=if b=a then s else S.getD b 0:=by
 rw [zAb,zBm,zAb];by_cases c:b=a
 · subst c;simp [e]
 · rw [zBw (fun d=>c d.symm),zBw c]
def KS (S R:List Nat) (c b a:Nat):Bool:=decide (S.getD a 0 < b∨(S.getD a 0=b/\ro R (a+1) < ro R (c+1)))
def aCx (L:IsSuf S R) (m:EndOk S (N+1)) {c i:Nat} (Y:c<=N) (T:0 < i) {row:Nat} (Z:row<=N+1)
 (u:∀b,b<=N+1->b≠c->b+1≠c->(aW (ro R b) (ro R c) < row↔KS S R c i b=true))
 (E:∀b,b+1=c->(aW (ro R b) (ro R c) < row->S.getD b 0<=i)/\(row<=aW (ro R b) (ro R c)->i<=S.getD b 0)):
 Near (S.set c i) (aP (aF R (ro R c)) row c) (N+1) c:=by
 have l:=L.near m;have X:=m.len;have O:=l.nodup;have k:∀a,a<=N+1->a∈R:=fun a d=>l.mem.2 d;have x:=l.len;have C:∀a b,a<=N+1->b<=N+1->a≠b->ro R a≠ro R b:=fun a b d e z p=>z (eV (k a d) (k b e) p);obtain ⟨J,D,r⟩:=uV O (t:=row) (cG (k c oM)) oM;obtain ⟨j,M⟩:∃j,aP (aF R (ro R c)) row c=j:=⟨_,rfl⟩;rw [M] at J D r⊢;have q:∀a b,a<=N+1->b<=N+1->a≠c->b≠c->(ro j a < ro j b↔ro R a < ro R b):=fun a b d e n I=>by rw [r a (k a d) n,r b (k b e) I];have v:=C a c d oM n;have W:=C b c e oM I;unfold inR aW;split <;> split <;> split <;> split <;> omega
 have H:∀a,a<=N+1->a≠c->(ro j a < ro j c↔aW (ro R a) (ro R c) < row):=fun a d n=>by rw [D,r a (k a d) n];unfold inR;split <;> omega
 have G:∀a,a<=N+1->a≠c->(ro j c < ro j a↔¬aW (ro R a) (ro R c) < row):=fun a d n=>by rw [D,r a (k a d) n];unfold inR;split <;> omega
 have w:=aHq S (s:=i) (show c < S.length by omega);refine ⟨aI3 m oM T,J.trans l.perm,fun a b d e B=>?_,fun a b d e z a0 a1=>?_⟩;rw [w,w];by_cases g:a=c;subst g;rw [zBx rfl];by_cases f:b=a;rw [zBx f];exact zAs _;rw [zBw f];have v:=(G b e f).1 B;by_cases o:b+1=a;exact (E b o).2 oM;have:=u b e f o;unfold KS at this;rw [zCa] at this;omega;rw [zBw g];by_cases f:b=c;subst f;rw [zBx rfl];have v:=(H a d g).1 B;by_cases o:a+1=b;exact (E a o).1 v;have:=(u a d g o).1 v;unfold KS at this;rw [zCa] at this;omega;rw [zBw f];exact l.first a b d e ((q a b d e g f).1 B)
 · have y:∀A,A<=N+1->S.getD A 0≠0->A < N+1:=fun A U V=>Nat.lt_of_le_of_ne U fun p=>by subst p;exact V m.last
   unfold sW;rw [w,w];by_cases g:a=c;subst g;have f:b≠a:=fun p=>z p.symm;rw [zBx rfl,zBw f,G b e f,u b e f oM];unfold KS;rw [zCa];by_cases F:S.getD b 0=i;have Q:=y b e oM;rw [q (a+1) (b+1) oM oM oM oM];have:=C (b+1) (a+1) oM oM oM;omega;omega
   · rw [zBw g];by_cases f:b=c
     · subst f;rw [zBx rfl,H a d g,u a d g oM];unfold KS;rw [zCa];by_cases F:S.getD a 0=i
       · have P:=y a d oM;rw [q (a+1) (b+1) oM oM oM oM]
       omega
     · rw [zBw f,q a b d e g f,l.cons a b d e z oM oM];unfold sW;by_cases F:S.getD a 0=S.getD b 0
       · by_cases K:S.getD a 0=0;have a2:a=N+1:=Nat.le_antisymm d (zCr.1 fun x=>by have:=m.pos a x;omega);have a3:b=N+1:=Nat.le_antisymm e (zCr.1 fun x=>by have:=m.pos b x;omega);omega
         · have P:=y a d K;have Q:=y b e oM;rw [q (a+1) (b+1) oM oM oM oM]
       omega
def aJ9 (I:IsSuf S R) (U:EndOk S (N+1)) {a s:Nat} (L:a<=N):(∀b,b<=N+1->b≠a->(aW (ro R b) (ro R a) < (aF R (ro R a)).countP (KS S R a s)↔KS S R a s b=true))/\(aF R (ro R a)).countP (KS S R a s)<=N+1:=by
 have f:=I.near U;have a4:=f.nodup;have n:∀d,d<=N+1->d∈R:=fun d o=>f.mem.2 o;obtain ⟨G,t,u,H⟩:=aBc f.perm L;have z:∀d b,d<=N+1->b<=N+1->d≠b->ro R d≠ro R b:=fun d b o q W k=>W (eV (n d o) (n b q) k);have B:∀ {e c:Nat},(aF R (ro R a))[e]?=some c->c<=N+1/\c≠a/\e=aW (ro R c) (ro R a):=fun {e c} g=>by have j:=(H c).1 (zAd g);refine ⟨f.mem.1 j.1,j.2,?_⟩;have K:=u c j.1 j.2;obtain ⟨v,w⟩:=zAc.1 g;obtain ⟨x,y⟩:=zAc.1 K;rcases Nat.lt_trichotomy e (aW (ro R c) (ro R a)) with b | b | b;exact absurd (by rw [w,y]) (zAr.1 t _ _ v x b);exact b;exact absurd (by rw [w,y]) (zAr.1 t _ _ x v b)
 have X:(aF R (ro R a)).Pairwise fun d b=>KS S R a s b=true->KS S R a s d=true:=by
  rw [zAr];intro e r M O a3 m;obtain ⟨c,g⟩:=eqx ((aF R (ro R a))[e]);obtain ⟨i,A⟩:=eqx ((aF R (ro R a))[r]);have Q:(aF R (ro R a))[e]?=some c:=by rw [zAa M,g]
  have T:(aF R (ro R a))[r]?=some i:=by rw [zAa O,A]
  rw [g];rw [A] at m;obtain ⟨C,a0,D⟩:=B Q;obtain ⟨E,a1,F⟩:=B T;have a5:=z c a C oM a0;have a6:=z i a E oM a1;have V:ro R c < ro R i:=by unfold aW at D F;split at D <;> split at F <;> omega
  have Z:c≠i:=fun k=>by subst k;omega
  have P:=(f.cons c i C E Z oM oM).1 V;unfold sW at P;unfold KS at m⊢;rw [zCa] at m⊢;omega
 refine ⟨fun b q Y=>(aAX X _ _ (u b (n b q) Y)).symm,?_⟩;have a2:=zBh (p:=KS S R a s) (l:=aF R (ro R a));have J:=G.length_eq;rw [zCg,f.len] at J;omega
def aKa (o:IsSuf S R) (g:EndOk S (N+1)) {a b:Nat} (q:a<=N) (v:0 < b):(aF R (ro R a)).countP (KS S R a b)+(if S.getD a 0 < b then 1 else 0)=(aE S R).countP (fun w=>decide (w < b))+(((aF ((aE S R).set (ro R (a+1)) b) (ro R a)).take (aW (ro R (a+1)) (ro R a))).count b+if ro R a < ro R (a+1)/\bK S a=b then 1 else 0):=by
 have d:=o.near g;have A:=d.nodup;have f:∀c,c<=N+1->c∈R:=fun c u=>d.mem.2 u;obtain ⟨l,x,y,z⟩:=aBc d.perm q;have i:=cG (f a oM);have r:ro R a < (aE S R).length:=by rw [bZ];exact (zAc.1 i).1
 have t:ro R a≠ro R (a+1):=fun m=>by have:=eV (f a oM) (f (a+1) oM) m;omega
 have p:(aE S R).getD (ro R a) 0=bK S a:=by unfold aE;rw [zAb,zAf,i];rfl
 have k:=aG9 (s:=b) r t;rw [p] at k;rw [k];have j:=qU g d.perm v (ro R (a+1));unfold cL at j;rw [j];unfold aA6;rw [<-d.perm.countP_eq,<-l.countP_eq,zBn];have n:(aF R (ro R a)).countP (fun c=>decide (S.getD c 0 < b∨(S.getD c 0=b/\ro R (c+1) < ro R (a+1))))=(aF R (ro R a)).countP (KS S R a b):=rfl;rw [n];congr 1;by_cases e:S.getD a 0 < b
 · rw [zBx e,zBx (zBz (.inl e))]
 rw [zBw e,zBw];rw [zCa];omega
def aI2 (m:IsSuf S R) (k:EndOk S (N+1)) {c s:Nat} (q:c<=N) (w:0 < s) {n0 row:Nat} {a:Int} (D:a=if c=0 then -1 else ((aW (ro R (c - 1)) (ro R c):Nat):Int))
 (M:n0+(if S.getD c 0 < s then 1 else 0)=(aE S R).countP (fun J=>decide (J < s))+((aF ((aE S R).set (ro R (c+1)) s) (ro R c)).take (aW (ro R (c+1)) (ro R c))).count s)
 (n:row=if bK S c=s/\a<=(n0:Int) then n0+1 else n0):
 row<=N+1/\Near (S.set c s) (aP (aF R (ro R c)) row c) (N+1) c:=by
 have A:=m.near k;have r:∀d,d<=N+1->d∈R:=fun d f=>A.mem.2 f;have C:=k.len;have t:∀d b,d<=N+1->b<=N+1->d≠b->ro R d≠ro R b:=fun d b f g v e=>v (eV (r d f) (r b g) e);obtain ⟨o,x⟩:=aJ9 (s:=s) m k q;have E:=aKa m k q w;obtain ⟨l,G⟩:=eqx ((aF R (ro R c)).countP (KS S R c s));rw [G] at o x E;have hrel:n0+(if ro R c < ro R (c+1)/\bK S c=s then 1 else 0)=l:=oM;have F:(row=l)∨(∃b,b+1=c/\S.getD b 0=s/\aW (ro R b) (ro R c)=l/\row=l+1):=by
  by_cases j:bK S c=s
  · have u:c≠0:=fun e=>by subst e;rw [bV oM,C,zBb,k.last] at j;omega
    obtain ⟨b,rfl⟩:∃b,c=b+1:=⟨c - 1,by omega⟩;rw [aX oM] at j;rw [zBw u,zBb] at D;have g:=o b oM oM;unfold KS at g;rw [zCa,j] at g;rw [aX oM,j] at hrel n;by_cases p:ro R (b+1) < ro R (b+1+1);left;rw [zBx ⟨p,rfl⟩] at hrel;have:aW (ro R b) (ro R (b+1)) < l:=g.2 (.inr ⟨rfl,p⟩);rw [zBx ⟨rfl,by omega⟩] at n;omega
    · rw [zBw (fun e=>p e.1)] at hrel;have K:¬aW (ro R b) (ro R (b+1)) < l:=fun e=>by rcases g.1 e with z | z;omega;exact p z.2
      by_cases y:aW (ro R b) (ro R (b+1))=l;right;rw [zBx ⟨rfl,by omega⟩] at n;exact ⟨b,rfl,j,y,by omega⟩;left;rw [zBw (fun e=>y oM)] at n;omega
  left;rw [zBw (fun e=>j e.2)] at hrel;rw [zBw (fun e=>j e.1)] at n;omega
 have H:∀d b,d<=N+1->b<=N+1->d≠c->b≠c->d≠b->aW (ro R d) (ro R c)≠aW (ro R b) (ro R c):=fun d b f g i I v=>by have U:=t d c f oM i;have V:=t b c g oM I;have W:=t d b f g v;unfold aW;split <;> split <;> omega
 rcases F with rfl |⟨b,P,Q,T,rfl⟩;refine ⟨x,aCx m k q w x (fun d f i _=>o d f i) (fun d i=>?_)⟩;have:=o d oM oM;unfold KS at this;rw [zCa] at this;omega;have L:aW (ro R b) (ro R c) < N+1:=(by have u:=(zAc.1 (cG (r b oM))).1;have B:=(zAc.1 (cG (r c oM))).1;rw [A.len] at u B;have:=t b c oM oM oM;unfold aW;split <;> omega);refine ⟨by omega,aCx m k q w oM (fun d f i O=>?_) (fun d i=>?_)⟩;rw [<-o d f i];have:=H d b f oM i oM oM;omega;obtain rfl:d=b:=oM;omega
def aGk (f:R.Perm (List.range (N+1+1))) (n:EndOk S (N+1)) {b s row:Nat} (r:b<=N):aE (S.set b s) (aP (aF R (ro R b)) row b)=aP (aF ((aE S R).set (ro R (b+1)) s) (ro R b)) row (bK S b):=by
 have p:R.Nodup:=f.nodup_iff.2 List.nodup_range;have q:=n.len;have o:∀a,a∈R->a<=N+1:=fun a g=>by have:=zCj.1 (f.mem_iff.1 g);omega
 have i:b+1∈R:=f.mem_iff.2 (zCj.2 oM);have j:=aHq S (s:=s) (show b < S.length by omega);have k:∀a,a<=N+1->bK (S.set b s) a=if a=b+1 then s else bK S a:=fun a t=>by
  rcases a with _ | a
  · rw [zBw oM,bV (by rw [zAt];omega),bV oM,zAt,j,zBw oM]
  · rw [aX (by rw [zAt];omega),aX oM,j];by_cases d:a=b
    · rw [zBx d,zBx oM]
    · rw [zBw d,zBw oM]
 unfold aE;rw [mY,rI,k b oM,zBw oM];congr 2;apply List.ext_getElem?;intro m;rw [zAf,zBm,zAf];cases c:R[m]? with
 | none=>
   have:¬ro R (b+1)=m:=fun e=>by rw [<-e,cG i] at c;cases c
   rw [zBw this];rfl
 | some a=>
   have g:=zAd c;have l:=fR p c;show some (bK (S.set b s) a)=_;rw [k a (o a g)];by_cases d:a=b+1
   · subst d;rw [zBx rfl,zBx l,zBx (by rw [l];simpa using (zAc.1 c).1)]
   rw [zBw d,zBw (fun e=>d ?_)];rfl;rw [<-e,cG i] at c;injection c with c;exact c.symm
end
end
section
open Go.RowKit
def aBf {a:List Nat} {c b:Nat} (d:a[c]?=some b):(a.take c).count b < a.count b:=by
 have e:a.count b=(a.take (c+1)).count b+(a.drop (c+1)).count b:=by rw [<-zCc,zAu]
 have f:(a.take (c+1)).count b=(a.take c).count b+1:=by rw [zAv,d,zCc];simp
 omega
def aHU {a:List UInt8} {b:List Nat} (n:IsSuf (aG a) b) {e m d:Nat} {c:UInt8} (p:b[e]?=some (d+1)) (q:b[m]?=some d) (i:a[d]?=some c):
 (aE (aG a) b)[e]?=some (c.toNat+1)/\cL (aE (aG a) b) (c.toNat+1) e=m:=by
 obtain ⟨j,k⟩:=zAc.1 p;obtain ⟨r,s⟩:=zAc.1 q;have l:=(zAc.1 i).1;have o:(aG a).getD d 0=c.toNat+1:=by unfold aG dK;rw [zAb,zAn (by simpa using l),zAf,i];rfl
 have f:=lf n (eH a) j r k s;have g:=rA (eH a) j k l;rw [o] at f g;exact ⟨zAc.2 ⟨_,g⟩,f⟩
def oS (j gk:Nat) (a:List Nat) (g c b:Nat) (d:World) (l:WalkAt d j gk a) (f:a[g]?=some b) (r:cL a b g=c) (p:∀i∈a,i < 257) (u:a.length<=1000):
 Calls prog 132 #[gk,(c:Int)] d fun e v=>e=.returned (.int .i64 (b:Int))/\Below d.heap.size d v:=by
 have E:b < 257:=p _ (zAd f);have q:=aBf f;have s:a.countP (fun i=>decide (i < b))+(a.take g).count b=c:=r;have t:c < a.length:=by have:=uY a b a.length;unfold cL at this;rw [List.take_length] at this;omega
 have o:=l;obtain ⟨G,B,m,C,n⟩:=l;have F:=m.cell 1;obtain ⟨w,x,k,y,z,A⟩:=hqq6 o n s q t u;clear o m C n s q r t p u f;go_enter func132,ntmps132;go_wp2_with fail;refine (xN j gk a c d w.out z.out).mono ?_;rintro e w1 ⟨rfl,rfl⟩;go_wp2_with fail;refine (xT B a c b _ x.out E (by have:=k.out;omega) (by have:=k.out;have:=y.out;omega) A.out).mono ?_;rintro e v ⟨rfl,D⟩;go_wp2_with fail;go_ret;exact ⟨rfl,D⟩
def tZ (b:UInt8) (a:Nat) (i:a=b.toNat+1) (c:World):
 Calls prog 108 #[(a:Int)] c fun d k=>d=.returned (.tuple #[bv b,.bool true])/\Below c.heap.size c k:=by
 have g:=b.toNat_lt;have l:¬((a:Int)=0):=oM;have m:((a:Int)==0)=false:=by rw [zCb];omega
 have n:IntKind.i64.wrap ((a:Int) - 1)=(b.toNat:Int):=by rw [IntKind.wrap_i64];omega
 have o:IntKind.u8.wrap (b.toNat:Int)=(b.toNat:Int):=by rw [IntKind.wrap_u8];omega
 have e:¬a=0:=oM;have p:decide (a=0)=false:=zBy e;have j:a < 257:=oM;clear i g;go_enter func108,ntmps108;go_wp2_with fail;refine (fE a c j).mono ?_;rintro d w1 ⟨rfl,f⟩;go_wp2_with fail;go_ret2;exact ⟨rfl,f⟩
def pU (e gk:Nat) (b:List Nat) (d g a:Nat) (l:World) (y:WalkAt l e gk b) (u:b[d]?=some a) (B:cL b a d=g) (s:∀C∈b,C < 257) (v:b.length<=1000) (I:TabW l) (A:1 < e):
 Calls prog 91 #[gk,(g:Int)] l fun r ab=>r=.returned (.int .i64 (d:Int))/\VB e l ab:=by
 have a7:a < 257:=s _ (zAd u);have K:=oS e gk b d g a l y u B s v;obtain ⟨k,w⟩:∃k,b.countP (fun C=>decide (C < a))=k:=⟨_,rfl⟩;obtain ⟨n,t⟩:=eqx ((b.take d).count a);have L:k+n=g:=by rw [<-w,<-t];exact B
 have am:k<=1000:=by rw [<-w];exact zAk zBh v
 have an:n<=1000:=by rw [<-t];exact zAk zBv (by rw [zAj];omega)
 have H:=y;obtain ⟨x,al,z,G,a5⟩:=y;have ao:=z.lt;obtain ⟨P,Q,U,Z,W,F,a1,Y,a0⟩:=hqq9 H z G u s v w t L;have D:=lhd I;clear H z G a5 u s v w t B L I;have ap:decide ((a:Int) < 0)=false:=by simp
 go_enter func91,ntmps91;go_wp2_with fail;refine K.mono ?_;rintro r m ⟨rfl,J⟩;clear K;have j:VB e l m:=VisK.of_below J;obtain ⟨X,T,V,E⟩:=hqq4 (P.out.vis j.1) (j.1.bk Q.out dC dC) (U.out.vis j.1) (D.out.vb j A D.out.pos);have aq:=j.1.size;have a2:=lhd j;clear j J;go_wp2_with fail;refine wp_region_any kR ?_;refine aV [11,12,13,14,15,16,17,18,19,20,21,4] (VB e) (Vs [is gk,is gk,is gk,is x,is (g:Int),is gk,is (a:Int),is (k:Int),is (n:Int),is (a:Int),is (d:Int),is (d:Int)]) _ _ rfl kR vR (fun _ _=>VisK.trans) (cZ tA1) ?_ ?_
 · refine aO ?_;refine pH 0 (.pointer (some gk)) ?_;refine pV 0 11 ?_;refine pV 1 12 ?_;refine pL 2 13 (fun i c=>have c:(VB e) m i:=bD c;(((c.1.bk T.out dC dC).cell 0).trans rfl:i.cell? gk=some (.pointer (some x)))) ?_;refine pH 1 (.int .i64 (g:Int)) ?_;refine pH 0 (.pointer (some gk)) ?_;refine pH 5 (.int .i64 (a:Int)) ?_;refine sC (fun _ i c _ _ _ f _ _ _ o=>?_) ?_
   · have ag:_=_:=f 5 16 kR rfl;have ah:_=_:=f 6 17 kR rfl;replace c:(VB e) m i:=bD c;go_simp;refine (iI e gk b a i (X.out.vis c.1) a7 F.out).mono ?_;rintro r ad ⟨rfl,a6⟩;rw [a1.out];exact o _ _ (VisK.of_below a6) rfl
   refine sC (fun _ _ _ _ _ _ f _ _ _ o=>?_) ?_
   · have af:_=_:=f 4 15 kR rfl;have ai:_=_:=f 7 18 kR rfl;have ar:IntKind.i64.wrap ((g:Int) -(k:Int))=(n:Int):=(by rw [IntKind.wrap_i64];have:=a0.out;omega);go_simp;exact o _ _ vR rfl
   refine pH 5 (.int .i64 (a:Int)) ?_;refine sC (fun _ i c _ _ _ f _ _ _ o=>?_) ?_
   · have ae:_=_:=f 3 14 kR rfl;have aj:_=_:=f 8 19 kR rfl;have ak:_=_:=f 9 20 kR rfl;replace c:(VB e) m i:=bD c;go_simp;refine (xJ e x b d n a i (V.out.vis c.1) Z.out Y.out W.out F.out (E.out.vb c A E.out.pos) A).mono ?_;rintro r ad ⟨rfl,a9⟩;exact o _ _ a9 rfl
   refine pV 10 21 ?_;exact aD
 · intro a4 ac c f;replace c:(VB e) m ac:=bD c;have a3:a4 (.tmp 4)=.int .i64 (d:Int):=f 11 4 rfl;simp only [zqq];rw [a3];clear f;have a8:=a2.out.trans c;go_wp2_with fail;go_ret;exact ⟨rfl,a8⟩
@[irreducible] def zerC (q:Nat):Array Value:=jX .i64 q fun _=>0
@[irreducible] def filC (b:List Nat) (p:Nat):Array Value:=jX .i64 257 fun a=>if a < p then cL b a 0 else 0
@[irreducible] def firC (b:List Nat) (p:Nat):Array Value:=jX .i64 257 fun a=>cL b a p
@[irreducible] def toC (b:List Nat) (q p:Nat):Array Value:=jX .i64 q fun d=>if d < p then cL b (b.getD d 0) d else 0
@[irreducible] def seenC (aa:List Nat) (q g:Nat):Array Value:=jX .i64 q fun d=>if g < aa.getD d 0 then 1 else 0
@[irreducible] def txtC (O:List UInt8) (g:Nat):Array Value:=jX .u8 O.length fun M=>if M < g then 0 else (O.getD M 0).toNat
def aFc (a:Nat):Array.replicate a (Value.int .i64 0)=zerC a:=by unfold zerC;exact oK _ _
def aGu (a:List Nat):Array.replicate 257 (Value.int .i64 0)=filC a 0:=by
 unfold filC;rw [oK];exact dJ fun c b=>by rw [zBw oM]
def aIg {L:List Nat} {a:Nat} (e:a < 257):(filC L a).setIfInBounds a (.int .i64 ((L.countP (fun f=>decide (f < a)):Nat):Int))=filC L (a+1):=by
 unfold filC;rw [lB e];refine dJ fun d g=>?_;by_cases b:d=a
 · subst b;rw [zBx rfl,zBx oM];unfold cL;simp
 · rw [zBw b];by_cases c:d < a
   · rw [zBx c,zBx oM]
   · rw [zBw c,zBw oM]
def aIi (a:List Nat):filC a 257=firC a 0:=by
 unfold filC firC;exact dJ fun c b=>by rw [zBx b]
def aIh {L:List Nat} {k a:Nat} (b:a < 257):∃c,(filC L k)[a]?=some c:=by
 unfold filC;exact ⟨_,fY b⟩
def aIf {b:List Nat} {c a:Nat} (d:a < 257):(firC b c)[a]?=some (.int .i64 ((cL b a c:Nat):Int)):=by
 unfold firC;exact fY d
def aIe {b:List Nat} {c a:Nat} (f:b[c]?=some a) (e:a < 257):(firC b c).setIfInBounds a (.int .i64 ((cL b a c+1:Nat):Int))=firC b (c+1):=by
 unfold firC;rw [lB e];refine dJ fun g i=>?_;rw [aGf f];by_cases d:g=a
 · subst d;simp
 · rw [zBw d,zBw d]
def aG6 (b:List Nat) (a:Nat):zerC a=toC b a 0:=by
 unfold zerC toC;exact dJ fun d c=>by rw [zBw oM]
def aFe {b:List Nat} {d c a:Nat} (e:a < d):(toC b d c)[a]?=some (.int .i64 (((if a < c then cL b (b.getD a 0) a else 0:Nat)):Int)):=by
 unfold toC;exact fY e
def aIS {b:List Nat} {c a g:Nat} (j:b[a]?=some g) (i:a < c):(toC b c a).setIfInBounds a (.int .i64 ((cL b g a:Nat):Int))=toC b c (a+1):=by
 unfold toC;rw [lB i];refine dJ fun f k=>?_;by_cases d:f=a;subst d;rw [zBx rfl,zBx oM,zAb,j];rfl
 · rw [zBw d];by_cases e:f < a
   · rw [zBx e,zBx oM]
   · rw [zBw e,zBw oM]
def aD1 {b:List Nat} {d c:Nat} (f:∀a∈b,a<=c):zerC d=seenC b d c:=by
 unfold zerC seenC;refine dJ fun g i=>?_;rw [zBw];rw [zAb];cases e:b[g]? with
 | none=>simp
 | some a=>simpa using f a (zAd e)
def aF0 {d:List Nat} {c b a:Nat} (e:a < c) (f:d[a]?=some b):(seenC d c b)[a]?=some (.int .i64 0):=by
 unfold seenC;rw [fY e,zAb,f];simp
def aFZ {a:List Nat} {n b c:Nat} {o:List Nat} (m:IsSuf o a) (q:a.length=n) (l:c < n) (g:a[c]?=some (b+1)):(seenC a n (b+1)).setIfInBounds c (.int .i64 ((1:Nat):Int))=seenC a n b:=by
 unfold seenC;rw [lB l];refine dJ fun j p=>?_;by_cases e:j=c
 · subst e;rw [zBx rfl,zAb,g,zBx (by simp)]
 · rw [zBw e];obtain ⟨d,i⟩:∃d,a[j]?=some d:=⟨_,zAa oM⟩;have r:d≠b+1:=fun k=>e (uU m (by rw [i,k]) g);rw [zAb,i];simp only [Option.getD_some];by_cases f:b+1 < d
   · rw [zBx f,zBx oM]
   · rw [zBw f,zBw oM]
def aFI (a:List UInt8):Array.replicate a.length (Value.int .u8 0)=txtC a a.length:=by
 unfold txtC;rw [oK];exact dJ fun c b=>by rw [zBx b]
def aG3 {b:List UInt8} {a:Nat} {c:UInt8} (f:b[a]?=some c):(txtC b (a+1)).setIfInBounds a (bv c)=txtC b a:=by
 have i:=(zAc.1 f).1;unfold txtC bv;rw [lB i];refine dJ fun g j=>?_;by_cases d:g=a;subst d;rw [zBx rfl,zBw oM,zAb,f];rfl
 · rw [zBw d];by_cases e:g < a
   · rw [zBx e,zBx oM]
   · rw [zBw e,zBw oM]
def aG4 {t:List UInt8} {j a:Nat} (b:a < t.length):∃c,(txtC t j)[a]?=some c:=by
 unfold txtC;exact ⟨_,fY b⟩
def aG5 (b:List UInt8):(txtC b 0).toList=b.map bv:=by
 unfold txtC;rw [aGF];apply List.ext_getElem?;intro c;rw [zAf,zAf];by_cases a:c < b.length
 · rw [zCk a,zAa a];simp [bv,a]
 rw [zBg (by simpa using a),zBg (by simpa using a)];rfl
def aFJ (a:List UInt8) (b:Nat):(txtC a b).size=a.length:=by unfold txtC;exact lA _ _ _
def aF4 (a:Nat) (j:a<=1000000) (b:World):(Instr.makeSlice 26 (.int .i64 (a:Int)) (.int .i64 (a:Int))).run prog b=.ok (.slice (some b.heap.size) a a) (b.alloc (.cells (Array.replicate a (.int .u8 0)) 5)):=by
 obtain ⟨i,d,e,f,g⟩:=info_parts uQ;have:=run_make (P:=prog) b 26 5 i (.int .u8 0) underlying26 d e .i64 .i64 a a oM (Int.le_refl _) (by rw [g];omega) oM;rw [this,f];have c:madeCells #[.int .u8 0] a=Array.replicate a (.int .u8 0):=by apply Array.ext';rw [toList_madeCells_one];simp
 simp only [Value.cells,zBr,zBl];rw [c]
def yB (aJ:Option Addr) (V al:Nat) (l:List UInt8) (O:List Nat) (g:World) (ai:IsSuf (aG l) O) (a8:Rd g al 1 aJ (l.length+1) ((aE (aG l) O).map sv)) (aU:al<=g.heap.size) (cs:l.length<=127):
 Calls prog 49 #[.slice aJ (l.length+1) V] g fun r bm=>∃bo bt,r=.returned (.tuple #[.slice bo l.length bt,.bool true])/\Made bm g.heap.size 5 1 bo l.length bt (l.map bv)/\Below g.heap.size g bm:=by
 obtain ⟨d,az⟩:=eqx (aE (aG l) O);have z:=dR (rs:=O) (eU l);have aY:=aEF ai;have b6:d.length=l.length+1:=by rw [<-az,bZ,ai.len,aM]
 rw [az] at a8 z aY;obtain ⟨N,ae⟩:=eqx l.length;obtain ⟨b,b9⟩:=eqx (N+1);rw [ae,b9] at a8 b6;rw [ae] at cs;have bP:=rN aJ b V al d g a8 aU oM z;obtain ⟨U,a0,rfl,ci,bG⟩:=a8.2 oM;have bH:∀wr,Below g.heap.size g wr->∀(a m:Nat),d[a]?=some m->wr.cell? ⟨U,a0+a,none⟩=some (.int .i64 (m:Int)):=fun wr i a m I=>(i.cell (p:=⟨U,a0+a,none⟩) (zAl ci aU)).trans (bG a _ (by rw [zAf,I];rfl));obtain ⟨c9,aP,c6,aq,am,a3,c3⟩:=hqq7 a8 bH z b6 az ae aY;rw [ae,b9];clear a8 bG bH z b6 az ae aY;go_enter func49,ntmps49;go_wp2_with fail;refine bP.mono ?_;clear bP;rintro r w1 ⟨a5,rfl,cV,bD,bz⟩;obtain ⟨ap,aK⟩:=hqq2 bD bz;clear bD bz;go_wp2_with fail;have bb:=tX a5 d 0 w1 ap.out oM;rw [c3.out] at bb;refine bb.mono ?_;clear bb;rintro r a4 ⟨rfl,aW⟩;obtain ⟨aN,an⟩:=hqq2 (ap.out.below aW ap.out.lt) (aK.out.trans (aW.mono aK.out.size));clear aW ap aK;go_wp2_with fail;have d2:b<=128:=oM;refine wp_region_any kR ?_;refine vH [29,30,31,32,33,34,6,7] [31,34] 8 (Grow) (Below a4.heap.size a4) [k0 (is (.slice (some ⟨U,a0,none⟩) b V)),k0 (is (b:Int)),k0 (fun a1 a2=>∃f,a1=.slice (some ⟨f,0,none⟩) b b/\a4.heap.size<=f/\Bk a2 f 3 (zerC b)),k0 (is (.slice (some ⟨U,a0,none⟩) b V)),k0 (is (b:Int)),k0 (fun a1 a2=>∃f,a1=.slice (some ⟨f,0,none⟩) b b/\a4.heap.size<=f/\Bk a2 f 3 (zerC b)),kEq 31,kEq 34] _ _ rfl kR kR (bR.drew) (xH rfl) (fun g bm ax a=>a.elim (fun a=>ax.trans (a.mono ax.size)) (fun a=>ax.trans (a.mono ax.size))) (by repeat' (first | exact aED _ | exact aFw _ |(refine zAe.2 ⟨?_,?_⟩)|(intro c D;cases D))) (by repeat' (first | exact uR _ _ | exact qF _ _ | exact jB (fun _ _ _ ⟨f,aS,aT,ad⟩ a=>⟨f,aS,aT,ad.below a ad.lt⟩)|(refine zAe.2 ⟨?_,?_⟩)|(intro c D;cases D))) (by simp only [List.eraseIdx_cons_zero,List.eraseIdx_cons_succ,List.eraseIdx_nil];repeat' (first | exact uR _ _ | exact qF _ _ | exact jB (fun _ _ _ ⟨f,aS,aT,ad⟩ a=>⟨f,aS,aT,ad.below a ad.lt⟩)|(refine zAe.2 ⟨?_,?_⟩)|(intro c D;cases D))) ?_ ?_
 · refine aO ?_;refine aC (cY rfl rfl fun x _ _ _ _ _ o _ _ _ _ s=>?_) ?_
   · have cg:x (.tmp 0)=.slice (some ⟨U,a0,none⟩) b V:=o 0 kR;clear o;go_simp;exact s _ _ (dQ bR rfl rfl) rfl
   refine aC (cY rfl rfl fun _ _ _ _ _ _ o E _ _ _ s=>?_) ?_
   · have cI:_=_:=E 0 29 kR rfl;clear o;go_simp;exact s _ _ (dQ bR rfl rfl) rfl
   refine aC (cY rfl rfl fun _ _ aV _ _ _ o E _ _ _ s=>?_) ?_
   · obtain ⟨W,ay⟩:=aV;have cJ:_=_:=E 1 30 kR rfl;clear o;have bk:=mT b oM;go_simp;exact s _ _ (jG (bR.alloc nL _) rfl (fun f ag=>by simp [blk?] at ag;subst ag;simp)) ⟨_,rfl,W.size,by rw [<-aFc];exact Bk.new _ _ _⟩
   refine aC (cY rfl rfl fun x _ _ _ _ _ o _ _ _ _ s=>?_) ?_
   · have cg:x (.tmp 0)=.slice (some ⟨U,a0,none⟩) b V:=o 0 kR;clear o;go_simp;exact s _ _ (dQ bR rfl rfl) rfl
   refine aC (cY rfl rfl fun _ _ _ _ _ _ o E _ _ _ s=>?_) ?_
   · have cK:_=_:=E 3 32 kR rfl;clear o;go_simp;exact s _ _ (dQ bR rfl rfl) rfl
   refine aC (cY rfl rfl fun _ _ aV _ _ _ o E _ _ _ s=>?_) ?_
   · obtain ⟨W,ay⟩:=aV;have cM:_=_:=E 4 33 kR rfl;clear o;have bk:=mT b oM;go_simp;exact s _ _ (jG (bR.alloc nL _) rfl (fun f ag=>by simp [blk?] at ag;subst ag;simp)) ⟨_,rfl,W.size,by rw [<-aFc];exact Bk.new _ _ _⟩
   refine aC (cY rfl rfl fun _ _ _ _ _ _ o _ _ _ _ s=>?_) ?_
   · clear o;go_simp;exact s _ _ (dQ bR rfl rfl) rfl
   refine aC (cY rfl rfl fun _ _ _ _ _ _ o _ _ _ _ s=>?_) ?_
   · clear o;go_simp;exact s _ _ (dQ bR rfl rfl) rfl
   exact aD
 · intro x ak W ay E ch;have bw:x (.tmp 6)=x (.tmp 31):=E 6 6 rfl;have bx:x (.tmp 7)=x (.tmp 34):=E 7 7 rfl;have cv:(fun a1 a2=>∃f,a1=.slice (some ⟨f,0,none⟩) b b/\a4.heap.size<=f/\Bk a2 f 3 (zerC b)) (x (.tmp 31)) ak:=E 2 31 rfl;have cw:(fun a1 a2=>∃f,a1=.slice (some ⟨f,0,none⟩) b b/\a4.heap.size<=f/\Bk a2 f 3 (zerC b)) (x (.tmp 34)) ak:=E 5 34 rfl;simp only [zqq];clear E ch;obtain ⟨y,be,bf,bW⟩:=cv;obtain ⟨q,P,ah,bQ⟩:=cw;have bI:y≠q:=fun r=>ay.2 31 (by simp) 34 (by simp) dC y (by rw [be];rfl) (by rw [P,r];rfl);have bA:=an.out.trans (W.mono an.out.size);have bE:=aN.out.below W aN.out.lt;have cS:=an.out.size;rw [bw,bx,be,P];generalize x (.tmp 29)=u29;generalize x (.tmp 30)=u30;generalize x (.tmp 32)=u32;generalize x (.tmp 33)=u33;obtain ⟨au,ar,aL,ab⟩:=hqq4 bW bQ bA bE;clear bW bQ bA bE ay bw bx be P W;go_wp2_with fail;obtain ⟨C,a6⟩:=eqx ak.heap.size;have b0:Bk (ak.alloc (.cells Tryz.zeroCells148 148)) C 148 (filC d 0):=(by rw [<-a6,<-aGu];exact Bk.new _ _ _);have Q:=au.out.alloc (.cells Tryz.zeroCells148 148);have Y:=ar.out.alloc (.cells Tryz.zeroCells148 148);have bi:=ab.out.alloc (.cells Tryz.zeroCells148 148);have X:=aL.out.alloc aL.out.size (.cells Tryz.zeroCells148 148);have cl:y < C:=(by rw [<-a6];exact au.out.lt);have cT:q < C:=(by rw [<-a6];exact ar.out.lt);have cU:a5 < C:=(by rw [<-a6];exact ab.out.lt);have cX:a5≠y:=Bk.ne ab.out au.out dC;have cW:a5≠q:=Bk.ne ab.out ar.out dC;rw [a6];generalize ak.alloc (.cells Tryz.zeroCells148 148)=W1 at b0 Q Y bi X⊢;clear au ar aL ab aN an a6;go_loopw [35] (fun J wr=>∃a:Nat,a<=257/\J=.int .i64 (a:Int)/\Bk wr C 148 (filC d a)/\Bk wr y 3 (zerC b)/\Bk wr q 3 (zerC b)/\Bk wr a5 199 (tcells d)/\Below g.heap.size g wr) (fun J _=>257 -(intOf J).toNat)
   case atStart=>exact ⟨0,by omega,rfl,b0,Q,Y,bi,X⟩
   case round=>
    clear b0 Q Y bi X;obtain ⟨a,b1,rfl,H,F,u,aF,i⟩:=hrel;by_cases z:a < 257
    · have d1:((a:Int) < 257):=oM;have aX:=jT a5 d a wr aF z (by rw [aq.out];omega);obtain ⟨e,Z⟩:∃e,d.countP (fun m=>decide (m < a))=e:=⟨_,rfl⟩;have bg:=aIg (L:=d) z;rw [Z] at aX bg;obtain ⟨T,w,v,br,ca⟩:=hqq5 H F u aF bg;clear H F u aF bg Z;go_wp2_with fail;refine aX.mono ?_;clear aX;rintro r d5 ⟨rfl,af⟩;have aA:=T.out.below af T.out.lt;obtain ⟨cy,aj⟩:=aIh (L:=d) (k:=a) z;have cC:=(aA.cell a).trans aj;have cP:=aA.frozen a;have c4:=lhd aA;clear aA aj;go_wp2_with fail;go_roundw
      case rel=>exact ⟨a+1,by omega,by go_num,by rw [<-ca.out];exact c4.out.set a _,(w.out.below af w.out.lt).far (by simp;omega) _,(v.out.below af v.out.lt).far (by simp;omega) _,(br.out.below af br.out.lt).far (by simp;omega) _,(i.trans (af.mono i.size)).setCell (by simp;omega) _⟩
      case measure=>simp [intOf];omega
    · have b2:a=257:=oM;subst b2;rw [aIi] at H;have bu:((257:Nat):Int)=257:=rfl;rw [bu];clear bu;obtain ⟨T,w,v,A⟩:=hqq4 H F u i;clear H F u aF i z b1;go_wp2_with fail;have cm:g.heap.size<=q:=oM;have co:g.heap.size<=y:=oM;have ck:g.heap.size<=C:=oM;have bN:C≠q:=oM;have bO:q≠C:=oM;go_loopw [46] (fun J wr=>∃a:Nat,a<=b/\J=.int .i64 (a:Int)/\Bk wr C 148 (firC d a)/\Bk wr y 3 (zerC b)/\Bk wr q 3 (toC d b a)/\Below g.heap.size g wr) (fun J _=>b -(intOf J).toNat)
      case atStart=>exact ⟨0,by omega,rfl,T.out,w.out,by rw [<-aG6];exact v.out,A.out⟩
      case round=>
         clear T w v A;obtain ⟨a,b1,rfl,H,F,u,i⟩:=hrel;by_cases z:a < b
         · obtain ⟨m,I⟩:∃m,d[a]?=some m:=⟨_,zAa (by rw [aq.out];exact z)⟩;have bY:=c6.out m (zAd I);have av:=aP.out wr i a m I;obtain ⟨e,Z⟩:=eqx (cL d m a);have d3:e<=1000:=(by have:=uY d m a;rw [Z,aq.out] at this;omega);have cA:wr.cell? ⟨C,m,none⟩=some (.int .i64 (e:Int)):=(by rw [<-Z];exact (H.cell m).trans (aIf bY));have cN:=H.frozen m;have cB:wr.cell? ⟨q,a,none⟩=some (.int .i64 (((if a < a then cL d (d.getD a 0) a else 0:Nat)):Int)):=(u.cell a).trans (aFe z);have cO:=u.frozen a;have a9:=aIS I z;have aa:=aIe I bY;rw [Z] at a9 aa;have cR:IntKind.i64.wrap ((e:Int)+1)=((e+1:Nat):Int):=(by rw [IntKind.wrap_i64];omega);obtain ⟨T,w,v,aQ,aR⟩:=hqq5 H F u a9 aa;clear H F u a9 aa Z;go_wp2_with fail;go_roundw
           case rel=>exact ⟨a+1,by omega,by go_num,by rw [<-aR.out];exact (T.out.far (p:=⟨q,a,none⟩) bN _).set m _,(w.out.far (p:=⟨q,a,none⟩) bI _).far (p:=⟨C,m,none⟩) (Nat.ne_of_lt cl) _,by rw [<-aQ.out];exact (v.out.set a _).far (p:=⟨C,m,none⟩) bO _,(i.setCell (p:=⟨q,a,none⟩) cm _).setCell (p:=⟨C,m,none⟩) ck _⟩
           case measure=>simp [intOf];omega
         · have b2:b=a:=oM;subst b2;obtain ⟨w,v,A⟩:=hqq3 F u i;have cj:=i.size;clear H F u i z b1 bN bO;have cQ:((b:Int) - 1)=(N:Int):=oM;have bk:=aF4 N oM;go_wp2_with fail;obtain ⟨G,a7⟩:=eqx wr.heap.size;have bj:Bk (wr.alloc (.cells (Array.replicate N (.int .u8 0)) 5)) G 5 (txtC l N):=(by rw [<-a7,<-a3.out,<-aFI];exact Bk.new _ _ _);have Q:=w.out.alloc (.cells (Array.replicate N (.int .u8 0)) 5);have Y:=v.out.alloc (.cells (Array.replicate N (.int .u8 0)) 5);have X:=A.out.alloc A.out.size (.cells (Array.replicate N (.int .u8 0)) 5);have bM:y≠G:=Nat.ne_of_lt (by rw [<-a7];exact w.out.lt);have bL:q≠G:=Nat.ne_of_lt (by rw [<-a7];exact v.out.lt);have bK:g.heap.size<=G:=(by rw [<-a7];exact A.out.size);rw [a7];generalize wr.alloc (.cells (Array.replicate N (.int .u8 0)) 5)=W2 at bj Q Y X⊢;clear w v A a7 bk cj;have bV:O.length=b:=(by have:=congrArg List.length am.out;rw [bZ,aq.out] at this;exact this);have b5:∀c∈O,c<=N:=fun c D=>by have:=ai.lt D;rw [aM,a3.out] at this;omega
           rw [aD1 b5] at Q;have bd:=aCi ai;rw [a3.out] at bd;obtain ⟨bq,cz,ac⟩:=hqq3 bV b5 ai;clear bV b5;go_loopw [13,14] (fun cx J wr=>∃M c:Nat,M<=N/\O[c]?=some M/\cx=.int .i64 (c:Int)/\J=.int .i64 ((M:Int) - 1)/\Bk wr y 3 (seenC O b M)/\Bk wr q 3 (toC d b b)/\Bk wr G 5 (txtC l M)/\Below g.heap.size g wr) (fun _ J _=>(intOf J+1).toNat)
           case atStart=>exact ⟨N,0,by omega,bd,rfl,by first | rfl | go_num,Q,Y,bj,X⟩
           case round=>
            clear Q Y bj X bd;obtain ⟨M,c,d0,D,rfl,rfl,F,u,I,i⟩:=hrel;have aB:c < b:=(by rw [<-bq.out];exact (zAc.1 D).1);by_cases cq:M=0
            · subst cq;have b3:=aGj ac.out D;rw [am.out] at b3;have av:=aP.out wr i c 0 b3;have cr:(((0:Nat):Int) - 1)=-1:=rfl;rw [cr];have b8:=aFq (B:=g.heap.size) I bK ((aFJ l 0).trans a3.out) (by unfold maxLen;omega);rw [aG5] at b8;obtain ⟨bp,A⟩:=hqq2 b8 i;clear F u I i b8 b3;have b4:=nJ (some ⟨G,0,none⟩) N N wr.heap.size l wr bp.out.rd nL oM;rw [b9] at b4;go_wp2_with fail;refine b4.mono ?_;clear b4;rintro r bn ⟨d4,c1,cf,bf,rfl,b7,K⟩;have cu:=bf.unique ac.out;subst cu;rw [am.out] at b7;have bX:=yA c1 (some ⟨U,a0,none⟩) b cf V bn.heap.size d bn b7.rd (((c9.out.below (A.out.mono aU)).below (K.mono (by have:=A.out.size;omega))).mono (by have:=A.out.size;have:=K.size;omega)) nL oM;have ao:=lhd K;clear K b7 bf av;go_wp2_with fail;refine bX.mono ?_;clear bX;rintro r d6 ⟨rfl,bC⟩;have c2:=lhd bC;clear bC;go_wp2_with fail;go_ret2;have bB:=ao.out.trans (c2.out.mono ao.out.size);exact ⟨_,_,rfl,bp.out.below bB,A.out.trans (bB.mono A.out.size)⟩
            · obtain ⟨e,rfl⟩:∃e,M=e+1:=⟨M - 1,by omega⟩;have ct:(((e+1:Nat):Int) - 1)=(e:Int):=oM;rw [ct];have bU:e < l.length:=(by rw [a3.out];omega);obtain ⟨aw,aZ⟩:∃aw,l[e]?=some aw:=⟨_,zAa bU⟩;obtain ⟨bl,bT,bS⟩:=ac.out.row (p:=e) (by rw [aM,a3.out];omega);have bc:O[bl]?=some e:=(by rw [zAa bT,bS]);obtain ⟨P,ah⟩:=aHU ac.out D bc aZ;rw [am.out] at P ah;have av:=aP.out wr i c _ P;obtain ⟨c0,bh⟩:=eqx (aw.toNat+1);have bF:=tZ aw c0 bh.symm wr;rw [bh] at P ah av;have a9:=aFZ (n:=b) ac.out bq.out aB D;have aa:=aG3 aZ;have bJ:(toC d b b)[c]?=some (.int .i64 (bl:Int)):=(by rw [aFe aB,zBx aB,zAb,P];show some (Value.int .i64 ((cL d c0 c:Nat):Int))=_;rw [ah]);obtain ⟨cy,aj⟩:=aG4 (t:=l) (j:=e+1) bU;obtain ⟨c8,aQ,aR,c5,w,v,bs,cc,cb⟩:=hqq9 bc a9 aa bJ F u I aj (aF0 aB D);clear bc bS bT P ah bh a9 aa bJ F u I aj aZ;go_wp2_with fail;refine bF.mono ?_;clear bF;rintro r bn ⟨rfl,K⟩;have aI:=w.out.below K w.out.lt;have ba:=v.out.below K v.out.lt;have aH:=bs.out.below K bs.out.lt;have cD:=(aI.cell c).trans cb.out;have cE:=aI.frozen c;have cF:=(ba.cell c).trans c5.out;have cG:=(aH.cell e).trans cc.out;have cH:=aH.frozen e;have cn:q≠y:=fun r=>bI r.symm;have cp:G≠y:=fun r=>bM r.symm;have cZ:G≠q:=fun r=>bL r.symm;obtain ⟨ce,c7,cd,ao⟩:=hqq4 aI ba aH (i.trans (K.mono i.size));clear aI ba aH K i;unfold bv;go_wp2_with fail;go_roundw
              case rel=>
               refine ⟨e,bl,by omega,c8.out,rfl,?_,?_,?_,?_,?_⟩
               · first | rfl | go_num
               rw [<-aQ.out];exact (ce.out.set c _).far (p:=⟨G,e,none⟩) bM _;exact (c7.out.far (p:=⟨y,c,none⟩) cn _).far (p:=⟨G,e,none⟩) bL _;rw [<-aR.out];exact (cd.out.far (p:=⟨y,c,none⟩) cp _).set e _;exact (ao.out.setCell (p:=⟨y,c,none⟩) co _).setCell (p:=⟨G,e,none⟩) bK _
              case measure=>simp [intOf]
def aHM {c e:List Nat} (g:IsSuf c e) (d:Bool) (a:List Nat) (b:Nat) (q:b < e.length):Pq c d a e[b]=decide (b < Nq c d a):=by
 have o:e.countP (Pq c d a)=Nq c d a:=g.count _;have n:=sM (P:=Pq c d a) g.sorted (fun j w t u=>aBD a t u);rw [o] at n;rw [Bool.eq_iff_iff,zCa];constructor;intro m;by_cases k:b < Nq c d a;exact k;exfalso;have p:∀j∈e.take (b+1),Pq c d a j=true:=(by intro j s;obtain ⟨i,r,rfl⟩:=zBo.1 s;rw [zAj] at r;rw [List.getElem_take];rcases zBe i b with f | f;exact aBD a (zAr.1 g.sorted i b oM q f) m;obtain rfl:i=b:=oM;exact m);have f:=List.countP_eq_length.2 p;rw [zAj] at f;have v:(e.take (b+1)).countP (Pq c d a)<=e.countP (Pq c d a):=(List.take_sublist _ _).countP_le;omega;intro k;have l:e[b]∈e.take (Nq c d a):=(by rw [List.mem_take_iff_getElem];exact ⟨b,by omega,rfl⟩);rw [n,zCv] at l;exact l.2
def aI8 {c f:List Nat} (g:IsSuf c f) (b:List Nat) (a:Nat) (j:a < f.length):sP c b f[a]=true↔Nq c false b<=a/\a < Nq c true b:=by
 obtain ⟨d,i⟩:=aIJ c b f[a];rw [aHM g false b a j,aHM g true b a j] at d;rw [aHM g false b a j] at i;constructor;intro l;rw [l] at d i;constructor;rcases zBe a (Nq c false b) with e | e;exact absurd ⟨zBz e,rfl⟩ i;exact e;simpa using d;rintro ⟨e,k⟩;rw [zBz k,zBy oM] at d;simpa using d.symm
def aEn {α:Type} (d:α->Bool) (b:List α) (a c:Nat) (q:a<=c) (r:c<=b.length) (k:∀j (s:j < b.length),d b[j]=true↔a<=j/\j < c):(b.drop a).take (c - a)=b.filter d:=by
 have m:b=b.take a++((b.drop a).take (c - a)++(b.drop a).drop (c - a)):=by rw [zAu,zAu]
 conv=>rhs;rw [m]
 rw [List.filter_append,List.filter_append];have n:(b.take a).filter d= []:=List.filter_eq_nil_iff.2 fun l g f=>by obtain ⟨i,e,rfl⟩:=zBo.1 g;rw [zAj] at e;rw [List.getElem_take] at f;have:=(k i oM).1 f;omega
 have o:((b.drop a).take (c - a)).filter d=(b.drop a).take (c - a):=List.filter_eq_self.2 fun l g=>by obtain ⟨i,e,rfl⟩:=zBo.1 g;rw [zAj,zAw] at e;rw [List.getElem_take,List.getElem_drop];exact (k (a+i) oM).2 ⟨by omega,by omega⟩
 have p:((b.drop a).drop (c - a)).filter d= []:=List.filter_eq_nil_iff.2 fun l g f=>by obtain ⟨i,e,rfl⟩:=zBo.1 g;rw [zAw,zAw] at e;rw [List.getElem_drop,List.getElem_drop] at f;have:=(k (a+(c - a+i)) oM).1 f;omega
 rw [n,o,p];simp
def fZ (a b:List UInt8):List Nat:=(List.range (a.length+1)).filter (sP (aG a) (dK b))
def aCg {b:List UInt8} {d:List Nat} (c:IsSuf (aG b) d) (a:List UInt8):((d.drop (Nq (aG b) false (dK a))).take (Nq (aG b) true (dK a) - Nq (aG b) false (dK a))).Perm (fZ b a):=by
 have e:Nq (aG b) false (dK a)<=Nq (aG b) true (dK a):=by rw [aE4];omega
 rw [aEn (sP (aG b) (dK a)) d _ _ e (by rw [c.len];exact aJN _ _ _) (fun g f=>aI8 c (dK a) g f)];have:=c.perm.filter (sP (aG b) (dK a));rw [aM] at this;exact this
def rH:∀(c d:List Int),c.Pairwise (fun a b=>a<=b)->d.Pairwise (fun a b=>a<=b)->c.Perm d->c=d
 | [],d,_,_,e=>e.nil_eq.symm ▸ rfl
 | a::c, [],_,_,e=>by simp at e
 | a::c,b::d,ha,hb,e=>by obtain ⟨j,k⟩:=List.pairwise_cons.1 ha;obtain ⟨l,m⟩:=List.pairwise_cons.1 hb;have n:a=b:=(by have g:a∈b::d:=e.mem_iff.1 (by simp);have i:b∈a::c:=e.mem_iff.2 (by simp);rcases List.mem_cons.1 g with f | g;exact f;rcases List.mem_cons.1 i with f | i;exact f.symm;have:=j b i;have:=l a g;omega);subst n;rw [rH c d k m (List.perm_cons a |>.1 e)]
def aB9 {b:List UInt8} {e:List Nat} (d:IsSuf (aG b) e) (a:List UInt8):(((e.drop (Nq (aG b) false (dK a))).take (Nq (aG b) true (dK a) - Nq (aG b) false (dK a))).map fun c:Nat=>(c:Int)).mergeSort (fun f g=>decide (f<=g))=(fZ b a).map fun c:Nat=>(c:Int):=by
 refine rH _ _ ?_ ?_ ((List.mergeSort_perm _ _).trans ((aCg d a).map _));have:=List.pairwise_mergeSort (le:=fun f g:Int=>decide (f<=g)) (fun i j k l m=>by simp at*;omega) (fun i j=>by simp;omega) (((e.drop (Nq (aG b) false (dK a))).take (Nq (aG b) true (dK a) - Nq (aG b) false (dK a))).map fun c:Nat=>(c:Int));exact this.imp fun d=>by simpa using d
 rw [List.pairwise_map];unfold fZ;refine (List.Pairwise.filter _ List.pairwise_lt_range).imp fun {i j} d=>?_;omega
end
section
def aCh {a d:List Nat} {l:Nat} (c:IsSuf a d) (f:EndOk a l) (b:List UInt8):gP (aE a d) b=(Nq a false (dK b),Nq a true (dK b)):=by
 have j:(aE a d).length=a.length:=by rw [bZ,c.len]
 unfold gP;rw [j]
 induction b with
 | nil=>
   obtain ⟨g,i⟩:=aKt a;show (0,a.length)=(Nq a false [],Nq a true []);rw [g,i]
 | cons e b k=>
   rw [List.reverse_cons,List.foldl_append,k];show (cL _ (e.toNat+1) (Nq a false (dK b)),cL _ (e.toNat+1) (Nq a true (dK b)))=_;rw [aFo c f _ _ _ oM,aFo c f _ _ _ oM];rfl
def aGy {a:List UInt8} {c:List Nat} (d:IsSuf (aG a) c) (b:List UInt8):(gP (aE (aG a) c) b).2 -(gP (aE (aG a) c) b).1=occ (aG a) (dK b):=by
 rw [aCh d (eH a),aE4];omega
end
section
open Go.RowKit Go.Shelf
def zN (j k:Nat) (a:List Nat) (n:Nat) (i:Option Addr) (f p d:Nat) (g:List Sl) (b:List UInt8) (N:Nat) (D:gX g=b) (C:b.length=N) (c:World) (r:LvW c j k a) (G:a.length=n+1) (E:n<=900) (s:∀J∈a,J < 257) (w:Rd c d 1 i f (g.map slV)) (x:∀o∈g,Rd c d 1 o.A o.n (o.l.map bv)) (B:d<=c.heap.size) (F:f<=1000000) (H:N<=1000000):
 Calls prog 76 #[k,.slice i f p] c fun q z=>q=.returned (.int .i64 (((gP a b).2 -(gP a b).1:Nat):Int))/\VB j c z:=by
 have v:=sB j k a n i f p d g b N D C c r G E s w x B F H;have e:=aFv a b.reverse (0,a.length) (zAp _) nL;change (gP a b).1<=(gP a b).2/\(gP a b).2<=a.length at e;obtain ⟨y,u⟩:=eqx ((gP a b).1);obtain ⟨m,t⟩:=eqx ((gP a b).2);rw [u,t] at v e⊢;have L:=e.1;have M:m<=1000:=oM;have K:IntKind.i64.wrap ((m:Int) -(y:Int))=((m - y:Nat):Int):=by rw [IntKind.wrap_i64];omega
 clear r w x u t e s;go_enter func76,ntmps76;go_wp2_with fail;refine v.mono ?_;rintro q z ⟨rfl,I⟩;go_wp2_with fail;go_ret;exact ⟨fG oM,I⟩
end
section
open Go.RowKit
def aHL (f:List Nat) (e:List Nat):∀c,sP f e c=true↔∀(a d:Nat),e[a]?=some d->aN f (c+a)=(d:Int):=by
 induction e with
 | nil=>intro c;exact ⟨fun _ a d b=>by simp at b,fun _=>rfl⟩
 | cons l e k=>
   intro c;rw [aAh,zBd,zCa,k];constructor
   · rintro ⟨g,i⟩ a d b;rcases a with _ | a;simp at b;subst b;exact g
     · have:=i a d (by simpa using b);rwa [show c+(a+1)=c+1+a by omega]
   · intro b;refine ⟨b 0 l (by simp),fun a d j=>?_⟩;have:=b (a+1) d (by simpa using j);rwa [show c+1+a=c+(a+1) by omega]
def oL (d:List UInt8) {c:Nat} {a:UInt8} (b:d[c]?=some a):aN (aG d) c=((a.toNat+1:Nat):Int):=by
 have e:=(zAc.1 b).1;refine kI ?_;unfold aG dK;rw [zAn (by simpa using e),zAf,b];rfl
def aEf (c k:List UInt8) (d:Nat):sP (aG c) (dK k) d=true↔∀(a:Nat) (b:UInt8),k[a]?=some b->c[d+a]?=some b:=by
 rw [aHL];constructor
 · intro f a b g;have:=f a (b.toNat+1) (by unfold dK;rw [zAf,g];rfl);cases j:c[d+a]? with
   | none=>
     exfalso;have m:=List.getElem?_eq_none_iff.1 j;rcases Nat.eq_or_lt_of_le m with e | e
     · have:aN (aG c) (d+a)=0:=by
         rw [kI (x:=0)];rfl
         · unfold aG dK;rw [zAo (by simp;omega)];simp [e]
       omega
     have:aN (aG c) (d+a)=-1:=mO (by rw [aM];omega);omega
   | some l=>
     rw [oL c j] at this;have e:l.toNat=b.toNat:=oM;rw [UInt8.toNat_inj.1 e]
 intro f a n i;unfold dK at i;rw [zAf] at i;obtain ⟨b,g,rfl⟩:=Option.map_eq_some_iff.1 i;exact oL c (f a b g)
def aIH (a:List UInt8):aN (aG a) a.length=0:=by
 refine kI (x:=0) ?_;unfold aG dK;rw [zAo (by simp)];simp
def aEd (e b:List UInt8):e.isPrefixOf b=true↔∀(d:Nat) (c:UInt8),e[d]?=some c->b[d]?=some c:=by
 rw [List.isPrefixOf_iff_prefix];constructor;rintro ⟨i,rfl⟩ d c a;rw [zAn (by obtain ⟨j,_⟩:=zAc.1 a;exact j)];exact a
 · intro a
   induction e generalizing b with
   | nil=>exact List.nil_prefix
   | cons f e m=>
     cases b with
     | nil=>exact absurd (a 0 f rfl) (by simp)
     | cons n b=>
       have g:=a 0 f rfl;simp at g;subst g;obtain ⟨i,l⟩:=m b fun d c k=>by simpa using a (d+1) c (by simpa using k)
       exact ⟨i,by rw [List.cons_append,l]⟩
def aCs (g f:List UInt8) (e:Nat):sP (aG g) (dK f) e=f.isPrefixOf (g.drop e):=by
 rw [Bool.eq_iff_iff,aEf,aEd];constructor;intro b d a c;rw [zBt];exact b d a c;intro b d a c;have:=b d a c;rw [zBt] at this;exact this
def aEw (b c:List UInt8):∀a,b.length+1 - c.length<=a->a<=b.length+1->gT b c a=fH b c:=by
 intro a e
 induction a with
 | zero=>
   intro _;have:b.length+1 - c.length=0:=oM;rw [fH,this]
 | succ a g=>
   intro i;rcases Nat.eq_or_lt_of_le e with d | d
   · rw [fH,d]
   · rw [aAm,g oM oM];cases f:c.isPrefixOf (b.drop a) with
     | false=>rfl
     | true=>
       exfalso;have:=(List.isPrefixOf_iff_prefix.1 f).length_le;rw [zAw] at this;omega
def qP (a b:List UInt8):fZ a b=fH a b:=by
 rw [<-aEw a b (a.length+1) oM nL];unfold fZ gT;congr 1;funext i;exact aCs a b i
def aEg (b a:List UInt8):(fZ b a).length=occ (aG b) (dK a):=by
 unfold fZ occ;rw [List.countP_eq_length_filter,aM]
def lX (a:List UInt8):(⟨a.toArray⟩:ByteArray).size=a.length:=by simp [ByteArray.size]
def aDV {c:List UInt8} {b:Nat} {d:UInt8} (e:c[b]?=some d):∀a,(Instr.index 9 (.string ⟨c.toArray⟩) (.int .i64 (b:Int))).run prog a=.ok (.int .u8 (d.toNat:Int)) a:=fun a=>by
 obtain ⟨f,g⟩:=zAc.1 e;rw [aCb (P:=prog) 9 underlying9 ⟨c.toArray⟩ b (by rw [lX];exact f) a];congr 4
def aB5 {a:List UInt8} {b c:Nat} {d e:UInt8} (j:a[b]?=some d) (k:a[c]?=some e):sufLt (aG a) b c↔d.toNat < e.toNat∨(d.toNat=e.toNat/\sufLt (aG a) (b+1) (c+1)):=by
 rw [iC,oL a j,oL a k];constructor;rintro (g |⟨i,f⟩);exact .inl oM;exact .inr ⟨by omega,f⟩;rintro (g |⟨i,f⟩);exact .inl oM;exact .inr ⟨by omega,f⟩
def aDT {t:List UInt8} {b:Nat} (a:b < t.length):sufLt (aG t) t.length b:=by
 rw [iC,aIH,oL t (zAa a)];exact .inl oM
def aDS {t:List UInt8} {a:Nat} (c:a < t.length):¬sufLt (aG t) a t.length:=by
 rw [iC,aIH,oL t (zAa c)];rintro (b |⟨b,_⟩);omega;omega
def aIK (f:List UInt8) (b c:Nat) (g:World) (d:Ending) (i:World):Prop:=∃a:Bool,d=.returned (.bool a)/\(a=true↔sufLt (aG f) b c)/\∃e,i=g.drewN e
def aH9 (g:List UInt8) (k l f:Nat) (A:World) (z:g.length=f) (U:f<=1000) (K:k<=f) (M:l<=f) (L:k≠l):
 Calls prog 125 #[.string ⟨g.toArray⟩,(k:Int),(l:Int)] A (aIK g k l A):=by
 have X:(⟨g.toArray⟩:ByteArray).size=f:=(lX g).trans z;have m:=lhd z;clear z;go_enter func125,ntmps125;go_wp2_with fail;go_loopw [1,2] (fun B P wr=>∃e i w:Nat,e<=f/\i<=f/\e≠i/\B=.int .i64 (e:Int)/\P=.int .i64 (i:Int)/\(sufLt (aG g) k l↔sufLt (aG g) e i)/\wr=A.drewN w) (fun B _ _=>f -(intOf B).toNat)
 case atStart=>exact ⟨k,l,0,K,M,L,rfl,rfl,Iff.rfl,rfl⟩
 case round=>
  obtain ⟨e,i,w,Q,T,V,rfl,rfl,G,rfl⟩:=hrel;have x:=lhd G;clear G;by_cases p:e < f/\i < f
  · obtain ⟨n,E⟩:=p;have s:g[e]?=some (g[e]'(by rw [m.out];exact n)):=zAa _;have u:g[i]?=some (g[i]'(by rw [m.out];exact E)):=zAa _;generalize g[e]'(by rw [m.out];exact n)=c at s;generalize g[i]'(by rw [m.out];exact E)=d at u;have H:=aB5 s u;have O:=aDV s;have W:=aDV u;have C:=lhd H;have D:(e:Int) < (f:Int):=oM;have J:(i:Int) < (f:Int):=oM;clear H s u;by_cases v:c.toNat=d.toNat
    · have y:(c.toNat:Int)=(d.toNat:Int):=oM;rw [y] at O;have F:sufLt (aG g) k l↔sufLt (aG g) (e+1) (i+1):=(by rw [x.out,C.out];constructor;rintro (j | j);omega;exact j.2;exact fun j=>.inr ⟨v,j⟩);have I:=lhd F;clear y F v;go_wp2_with fail;go_quiet (fail);go_wp2_with fail;go_roundw
      case rel=>exact ⟨e+1,i+1,_,by omega,by omega,by omega,by go_num,by go_num,I.out,rfl⟩
      case measure=>simp [intOf];omega
    · have y:¬(c.toNat:Int)=(d.toNat:Int):=oM;have q:decide (c.toNat < d.toNat)=true↔sufLt (aG g) k l:=(by rw [x.out,C.out,zCa];constructor;exact fun j=>.inl j;rintro (j | j);exact j;exact absurd j.1 v);have r:=lhd q;clear q v;go_wp2_with fail;go_quiet (fail);go_wp2_with fail;go_quiet (fail);go_wp2_with fail;go_ret;exact ⟨decide (c.toNat < d.toNat),cO (by simp),r.out,_,by rw [World.drewN_drewN,World.drewN_drewN]⟩
  · have q:decide ((i:Int) < (e:Int))=true↔sufLt (aG g) k l:=(by rw [x.out,zCa];by_cases n:e < f;obtain rfl:i=f:=(by have:¬i < f:=fun j=>p ⟨n,j⟩;omega);constructor;intro j;omega;intro j;have o:=aDS (t:=g) (a:=e) (by rw [m.out];exact n);rw [m.out] at o;exact absurd j o;obtain rfl:e=f:=oM;have o:=aDT (t:=g) (b:=i) (by rw [m.out];omega);rw [m.out] at o;exact ⟨fun _=>o,fun _=>by omega⟩);have r:=lhd q;clear q;by_cases n:e < f
    · have D:(e:Int) < (f:Int):=oM;have J:¬(i:Int) < (f:Int):=(by have:¬i < f:=fun j=>p ⟨n,j⟩;omega);clear p;go_wp2_with fail;go_ret;exact ⟨decide ((i:Int) < (e:Int)),cO (by simp),r.out,w,rfl⟩
    · have D:¬(e:Int) < (f:Int):=oM;clear p;go_wp2_with fail;go_ret;exact ⟨decide ((i:Int) < (e:Int)),cO (by simp),r.out,w,rfl⟩
end
end Go.Proofs.YthldmddkfbijhaaGreatDoor
