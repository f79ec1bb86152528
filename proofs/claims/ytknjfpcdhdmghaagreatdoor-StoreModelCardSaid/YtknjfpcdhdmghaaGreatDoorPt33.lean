/- Lemmas of the walk. Conditions: each its own. -/
import Derived.Test.YtknjfpcdhdmghaaGreatDoorPt32
set_option linter.all false
set_option maxRecDepth 100000
set_option maxHeartbeats 8000000
open Go.Proofs.Tryz
namespace Go.Proofs.YtknjfpcdhdmghaaGreatDoor
section
open Go.RowKit
def iA {a b} (c:a=b):Value.bool a=Value.bool b:=by rw [c]
section
variable {w w' : World} {B B' sz n : Nat} {A : Option Addr} {xs : List Value}
end
section
variable {P : Program} (t e : TypeId) (sz : Nat) (ht : P.underlying t = some (.slice e)) (hs : ∀ w, (sizeOf e).run P w = .ok sz w)
include ht hs
end
section
variable {w w' : World} {g : Nat} {t : TypeId} {cs : Array Value}
end
section
variable {F G : Nat -> Prop} {w w1 w' : World}
end
section
variable {P : Program} (w : World)
end
end
section
section
variable {S R : List Nat} {N : Nat}
def aJ8 {c:List Nat} {a b s:Nat} (m:a < c.length) (o:a≠b):((aK (c.set b s) a).take (bN b a)).count s+(if a < b/\c.getD a 0=s then 1 else 0)=(c.take b).count s:=by
 have j:(c.set b s).take b=c.take b:=by
  apply zDs;intro q;rw [zBs,zBs];split
  .rw [zBm,zBw oM]
  rfl
 unfold bN;by_cases d:a < b
 .rw [zBx d];have k:(aK (c.set b s) a).take (b - 1)=aK (c.take b) a:=(by unfold aK;have f:((c.set b s).take a).length=a:=(by rw [zAj,zAt];omega);rw [zEI,f,zEy,Nat.min_eq_right oM,<-j,zEy,zCu oM,List.drop_take];congr 2;omega);rw [k];have p:a < (c.take b).length:=(by rw [zAj];omega);have l:(c.take b)[a]?=some (c.getD a 0):=(by rw [zBs,zBx d,zAb,zAa m];rfl);have:=(fH l).count_eq s;rw [<-this,zDg];by_cases i:c.getD a 0=s
  .simp [d,i]
  .simp [d,i]
 .rw [zBw d,zBw oM,zBq];unfold aK;have f:((c.set b s).take a).length=a:=(by rw [zAj,zAt];omega);rw [zEI,f,show b - a=0 by omega,zDN,zEa,zEy,zCu oM,j]
end
section
variable {S R : List Nat} {N : Nat}
def aMH (l:EndOk S N) {at_ b} (p:at_ < N) (hs:0 < b):EndOk (S.set at_ b) N:=by
 obtain ⟨i,j,k⟩:=l;have f:∀a,(S.set at_ b).getD a 0=if at_=a/\a < S.length then b else S.getD a 0:=λa=>by
  rw [zAb,zBm,zAb];by_cases c:at_=a
  .subst c;by_cases d:at_ < S.length
   .simp [d]
   .simp [d]
  .simp [c]
 refine ⟨by rw [zAt,i],?_,λo m=>?_⟩
 .rw [f,zBw oM,j]
 rw [f];split;exact hs;exact k o m
def aKr {S:List Nat} {at_ s:Nat} (c:at_ < S.length) (a:Nat):(S.set at_ s).getD a 0=if a=at_ then s else S.getD a 0:=by
 rw [zAb,zBm,zAb];by_cases b:a=at_
 .subst b;simp [c]
 .rw [zBw (λe=>b e.symm),zBw b]
def KS (S R:List Nat) (at_ b a:Nat):Bool:=decide (S.getD a 0 < b∨(S.getD a 0=b/\ro R (a+1) < ro R (at_+1)))
def aEN (W:IsSuf S R) (o:EndOk S (N+1)) {at_ j} (a5:at_<=N) (hs:0 < j) {row} (a6:row<=N+1) (x:∀b,b<=N+1->b≠at_->b+1≠at_->(bN (ro R b) (ro R at_) < row↔KS S R at_ j b=true)) (L:∀b,b+1=at_->(bN (ro R b) (ro R at_) < row->S.getD b 0<=j)/\(row<=bN (ro R b) (ro R at_)->j<=S.getD b 0)):
 Near (S.set at_ j) (aT (aK R (ro R at_)) row at_) (N+1) at_:=by
 have m:=W.P o;have a4:=o.len;have Y:=m.nodup;have l:∀a,a<=N+1->a∈R:=λa c=>m.mem.2 c;have C:=m.len;have J:∀a b,a<=N+1->b<=N+1->a≠b->ro R a≠ro R b:=λa b c d E e=>E (fL (l a c) (l b d) e);obtain ⟨U,K,v⟩:=zD Y (t:=row) (cE (l at_ oM)) oM;obtain ⟨k,X⟩:∃k,aT (aK R (ro R at_)) row at_=k:=⟨_,rfl⟩;rw [X] at U K v⊢;have u:∀a b,a<=N+1->b<=N+1->a≠at_->b≠at_->(ro k a < ro k b↔ro R a < ro R b):=λa b c d p T=>by rw [v a (l a c) p,v b (l b d) T];have y:=J a at_ c oM p;have a3:=J b at_ d oM T;unfold inR bN;split <;> split <;> split <;> split <;> omega
 have Q:∀a,a<=N+1->a≠at_->(ro k a < ro k at_↔bN (ro R a) (ro R at_) < row):=λa c p=>by rw [K,v a (l a c) p];unfold inR;split <;> omega
 have O:∀a,a<=N+1->a≠at_->(ro k at_ < ro k a↔¬bN (ro R a) (ro R at_) < row):=λa c p=>by rw [K,v a (l a c) p];unfold inR;split <;> omega
 have z:=aKr (s:=j) (show at_ < S.length by omega);refine ⟨aMH o oM hs,U.trans m.perm,λa b c d I=>?_,λa b c d E a7 a8=>?_⟩;rw [z,z];by_cases i:a=at_;subst i;rw [zBx rfl];by_cases f:b=a;rw [zBx f];exact zAs _;rw [zBw f];have y:=(O b d f).1 I;by_cases q:b+1=a;exact (L b q).2 oM;have:=x b d f q;unfold KS at this;rw [zCa] at this;omega;rw [zBw i];by_cases f:b=at_;subst f;rw [zBx rfl];have y:=(Q a c i).1 I;by_cases q:a+1=b;exact (L a q).1 y;have:=(x a c i q).1 y;unfold KS at this;rw [zCa] at this;omega;rw [zBw f];exact m.a9 a b c d ((u a b c d i f).1 I)
 .have D:∀H,H<=N+1->S.getD H 0≠0->H < N+1:=λH a1 a2=>zFO a1 λe=>by subst e;exact a2 o.last
  unfold wP;rw [z,z];by_cases i:a=at_;subst i;have f:b≠a:=λe=>E e.symm;rw [zBx rfl,zBw f,O b d f,x b d f oM];unfold KS;rw [zCa];by_cases M:S.getD b 0=j;have a0:=D b d oM;rw [u (a+1) (b+1) oM oM oM oM];have:=J (b+1) (a+1) oM oM oM;omega;omega
  .rw [zBw i];by_cases f:b=at_
   .subst f;rw [zBx rfl,Q a c i,x a c i oM];unfold KS;rw [zCa];by_cases M:S.getD a 0=j
    .have Z:=D a c oM;rw [u (a+1) (b+1) oM oM oM oM]
    omega
   .rw [zBw f,u a b c d i f,m.cons a b c d E oM oM];unfold wP;by_cases M:S.getD a 0=S.getD b 0
    .by_cases V:S.getD a 0=0;have a9:a=N+1:=zFo c (zCs.1 λC=>by have:=o.pos a C;omega);have aa:b=N+1:=zFo d (zCs.1 λC=>by have:=o.pos b C;omega);omega
     .have Z:=D a c V;have a0:=D b d oM;rw [u (a+1) (b+1) oM oM oM oM]
    omega
def aOk (U:IsSuf S R) (a3:EndOk S (N+1)) {at_ s} (X:at_<=N):(∀a,a<=N+1->a≠at_->(bN (ro R a) (ro R at_) < (aK R (ro R at_)).countP (KS S R at_ s)↔KS S R at_ s a=true))/\(aK R (ro R at_)).countP (KS S R at_ s)<=N+1:=by
 have f:=U.P a3;have ad:=f.nodup;have o:∀c,c<=N+1->c∈R:=λc q=>f.mem.2 q;obtain ⟨Q,x,y,T⟩:=aDg f.perm X;have H:∀c a,c<=N+1->a<=N+1->c≠a->ro R c≠ro R a:=λc a q u a5 e=>a5 (fL (o c q) (o a u) e);have J:∀ {d b:Nat},(aK R (ro R at_))[d]?=some b->b<=N+1/\b≠at_/\d=bN (ro R b) (ro R at_):=λ{d b} i=>by have k:=(T b).1 (zAd i);refine ⟨f.mem.1 k.1,k.2,?_⟩;have W:=y b k.1 k.2;obtain ⟨z,C⟩:=zAc.1 i;obtain ⟨D,E⟩:=zAc.1 W;rcases zDD d (bN (ro R b) (ro R at_)) with a | a | a;exact absurd (by rw [C,E]) (zAr.1 x _ _ z D a);exact a;exact absurd (by rw [C,E]) (zAr.1 x _ _ D z a)
 have a6:(aK R (ro R at_)).Pairwise λc a=>KS S R at_ s a=true->KS S R at_ s c=true:=by
  rw [zAr];intro d v Y Z ac m;obtain ⟨b,i⟩:=eqx ((aK R (ro R at_))[d]);obtain ⟨j,I⟩:=eqx ((aK R (ro R at_))[v]);have a1:(aK R (ro R at_))[d]?=some b:=by rw [zAa Y,i]
  have a2:(aK R (ro R at_))[v]?=some j:=by rw [zAa Z,I]
  rw [i];rw [I] at m;obtain ⟨K,a9,L⟩:=J a1;obtain ⟨M,aa,O⟩:=J a2;have ae:=H b at_ K oM a9;have af:=H j at_ M oM aa;have a4:ro R b < ro R j:=by unfold bN at L O;split at L <;> split at O <;> omega
  have a8:b≠j:=λe=>by subst e;omega
  have a0:=(f.cons b j K M a8 oM oM).1 a4;unfold wP at a0;unfold KS at m⊢;rw [zCa] at m⊢;omega
 refine ⟨λa u a7=>(aC2 a6 _ _ (y a (o a u) a7)).symm,?_⟩;have ab:=zBh (p:=KS S R at_ s) (l:=aK R (ro R at_));have V:=Q.length_eq;rw [zCg,f.len] at V;omega
def aOl (p:IsSuf S R) (i:EndOk S (N+1)) {at_ a} (u:at_<=N) (hs:0 < a):(aK R (ro R at_)).countP (KS S R at_ a)+(if S.getD at_ 0 < a then 1 else 0)=(aH S R).countP (λz=>decide (z < a))+(((aK ((aH S R).set (ro R (at_+1)) a) (ro R at_)).take (bN (ro R (at_+1)) (ro R at_))).count a+if ro R at_ < ro R (at_+1)/\bS S at_=a then 1 else 0):=by
 have c:=p.P i;have H:=c.nodup;have f:∀b,b<=N+1->b∈R:=λb y=>c.mem.2 y;obtain ⟨m,C,D,E⟩:=aDg c.perm u;have j:=cE (f at_ oM);have v:ro R at_ < (aH S R).length:=by rw [bY];exact (zAc.1 j).1
 have x:ro R at_≠ro R (at_+1):=λe=>by have:=fL (f at_ oM) (f (at_+1) oM) e;omega
 have q:(aH S R).getD (ro R at_) 0=bS S at_:=by unfold aH;rw [zAb,zAf,j];rfl
 have l:=aJ8 (s:=a) v x;rw [q] at l;rw [l];have k:=uM i c.perm hs (ro R (at_+1));unfold cR at k;rw [k];unfold aDc;rw [<-c.perm.countP_eq,<-m.countP_eq,zBn];have o:(aK R (ro R at_)).countP (λb=>decide (S.getD b 0 < a∨(S.getD b 0=a/\ro R (b+1) < ro R (at_+1))))=(aK R (ro R at_)).countP (KS S R at_ a):=rfl;rw [o];congr 1;by_cases d:S.getD at_ 0 < a
 .rw [zBx d,zBx (zBz (.inl d))]
 rw [zBw d,zBw];rw [zCa];omega
def aMG (m:IsSuf S R) (k:EndOk S (N+1)) {at_ s} (u:at_<=N) (hs:0 < s) {n0 row a} (K:a=if at_=0 then -1 else ((bN (ro R (at_ - 1)) (ro R at_):Nat):Int)) (X:n0+(if S.getD at_ 0 < s then 1 else 0)=(aH S R).countP (λU=>decide (U < s))+((aK ((aH S R).set (ro R (at_+1)) s) (ro R at_)).take (bN (ro R (at_+1)) (ro R at_))).count s) (o:row=if bS S at_=s/\a<=(n0:Int) then n0+1 else n0):
 row<=N+1/\Near (S.set at_ s) (aT (aK R (ro R at_)) row at_) (N+1) at_:=by
 have H:=m.P k;have v:∀c,c<=N+1->c∈R:=λc d=>H.mem.2 d;have J:=k.len;have x:∀c b,c<=N+1->b<=N+1->c≠b->ro R c≠ro R b:=λc b d f z e=>z (fL (v c d) (v b f) e);obtain ⟨p,C⟩:=aOk (s:=s) m k u;have L:=aOl m k u hs;obtain ⟨l,O⟩:=eqx ((aK R (ro R at_)).countP (KS S R at_ s));rw [O] at p C L;have hrel:n0+(if ro R at_ < ro R (at_+1)/\bS S at_=s then 1 else 0)=l:=oM;have M:(row=l)∨(∃b,b+1=at_/\S.getD b 0=s/\bN (ro R b) (ro R at_)=l/\row=l+1):=by
  by_cases j:bS S at_=s
  .have y:at_≠0:=λe=>by subst e;rw [bV oM,J,zBb,k.last] at j;omega
   obtain ⟨b,rfl⟩:∃b,at_=b+1:=⟨at_ - 1,by omega⟩;rw [bL oM] at j;rw [zBw y,zBb] at K;have f:=p b oM oM;unfold KS at f;rw [zCa,j] at f;rw [bL oM,j] at hrel o;by_cases q:ro R (b+1) < ro R (b+1+1);left;rw [zBx ⟨q,rfl⟩] at hrel;have:bN (ro R b) (ro R (b+1)) < l:=f.2 (.inr ⟨rfl,q⟩);rw [zBx ⟨rfl,by omega⟩] at o;omega
   .rw [zBw (λe=>q e.1)] at hrel;have V:¬bN (ro R b) (ro R (b+1)) < l:=λe=>by rcases f.1 e with E | E;omega;exact q E.2
    by_cases D:bN (ro R b) (ro R (b+1))=l;right;rw [zBx ⟨rfl,by omega⟩] at o;exact ⟨b,rfl,j,D,by omega⟩;left;rw [zBw (λe=>D oM)] at o;omega
  left;rw [zBw (λe=>j e.2)] at hrel;rw [zBw (λe=>j e.1)] at o;omega
 have Q:∀c b,c<=N+1->b<=N+1->c≠at_->b≠at_->c≠b->bN (ro R c) (ro R at_)≠bN (ro R b) (ro R at_):=λc b d f i T z=>by have a2:=x c at_ d oM i;have a3:=x b at_ f oM T;have a4:=x c b d f z;unfold bN;split <;> split <;> omega
 rcases M with rfl |⟨b,Z,a0,a1,rfl⟩;refine ⟨C,aEN m k u hs C (λc d i _=>p c d i) (λc i=>?_)⟩;have:=p c oM oM;unfold KS at this;rw [zCa] at this;omega;have W:bN (ro R b) (ro R at_) < N+1:=(by have y:=(zAc.1 (cE (v b oM))).1;have I:=(zAc.1 (cE (v at_ oM))).1;rw [H.len] at y I;have:=x b at_ oM oM oM;unfold bN;split <;> omega);refine ⟨by omega,aEN m k u hs oM (λc d i Y=>?_) (λc i=>?_)⟩;rw [<-p c d i];have:=Q c b d oM i oM oM;omega;obtain rfl:c=b:=oM;omega
def aI1 (d:R.Perm (List.range (N+1+1))) (o:EndOk S (N+1)) {at_ s row} (v:at_<=N):aH (S.set at_ s) (aT (aK R (ro R at_)) row at_)=aT (aK ((aH S R).set (ro R (at_+1)) s) (ro R at_)) row (bS S at_):=by
 have q:R.Nodup:=d.nodup_iff.2 zDl;have u:=o.len;have p:∀a,a∈R->a<=N+1:=λa f=>by have:=zCj.1 (d.mem_iff.1 f);omega
 have i:at_+1∈R:=d.mem_iff.2 (zCj.2 oM);have j:=aKr (s:=s) (show at_ < S.length by omega);have k:∀a,a<=N+1->bS (S.set at_ s) a=if a=at_+1 then s else bS S a:=λa x=>by
  rcases a with _ | a
  .rw [zBw oM,bV (by rw [zAt];omega),bV oM,zAt,j,zBw oM]
  .rw [bL (by rw [zAt];omega),bL oM,j];by_cases c:a=at_
   .rw [zBx c,zBx oM]
   .rw [zBw c,zBw oM]
 unfold aH;rw [qB,uY,k at_ oM,zBw oM];congr 2;apply zDs;intro m;rw [zAf,zBm,zAf];cases b:R[m]? with
 | none=>
  have:¬ro R (at_+1)=m:=λe=>by rw [<-e,cE i] at b;cases b
  rw [zBw this];rfl
 | some a=>
  have f:=zAd b;have l:=gR q b;show some (bS (S.set at_ s) a)=_;rw [k a (p a f)];by_cases c:a=at_+1
  .subst c;rw [zBx rfl,zBx l,zBx (by rw [l];simpa using (zAc.1 b).1)]
  rw [zBw c,zBw (λe=>c ?_)];rfl;rw [<-e,cE i] at b;injection b with b;exact b.symm
end
def aKd (t) {a} (b) (c:a < t.length):aG (t.set a b)=(aG t).set a (b.toNat+1):=by
 unfold aG dQ;rw [zGi];exact (List.set_append_left _ _ (by simpa using c)).symm
section
variable {S S' : Nat -> Prop} {r N at_ : Nat}
end
end
section
open Go.RowKit
section
variable {w w' : World} {B gs gl aA rate : Nat} {own own' : Nat -> Nat} {t : List UInt8}
end
section
variable {B gs : Nat} {w w1 w' : World} {own own1 own' : Nat -> Nat}
end
def uA (a n:Int) (b:Nat):Int:=if a=1 then 0 else if a=3 then (b:Int) else n
def oS {B own gs gl aA rate} (N) {t} (b f n A d j) {w} (o:StAt w B own gs gl aA rate t) (p:t.length=N) (a:dK N f (uA b n d)=false):
 Calls prog 23 #[gs,.agg #[(b:Int),(f:Int),(n:Int),.slice A d j]] w λe w'=>e=.returned (.int .i64 2)/\Below w.heap.size w w':=by
 have i:Below w.heap.size w (w.alloc (.cells #[(b:Int),(f:Int),(n:Int),.slice A d j] 32)):=bR.alloc nL _;have m:=λq=>sD f q (o.G (kb i)) p;have c:=kd w 32 #[(b:Int),(f:Int),(n:Int),.slice A d j];have u:=c.cell 0;have v:=c.cell 1;have x:=c.cell 2;have y:=c.cell 3;clear o c;unfold uA at a;by_cases k:b=1
 .subst k;rw [zBx rfl] at a;go_enter func23,ntmps23;go_wp2_with fail;refine (m 0).mono ?_;rintro e w1 ⟨rfl,rfl⟩;rw [a];go_wp2_with fail;go_ret;exact ⟨rfl,i⟩
 .rw [zBw k] at a;by_cases l:b=3
  .subst l;rw [zBx rfl] at a;go_enter func23,ntmps23;go_wp2_with fail;refine (m (d:Int)).mono ?_;rintro e w1 ⟨rfl,rfl⟩;rw [a];go_wp2_with fail;go_ret;exact ⟨rfl,i⟩
  .rw [zBw l] at a;have b1:(b==1)=false:=zCb.2 k;have s:(b==3)=false:=zCb.2 l;go_enter func23,ntmps23;go_wp2_with fail;refine (m n).mono ?_;rintro e w1 ⟨rfl,rfl⟩;rw [a];go_wp2_with fail;go_ret;exact ⟨rfl,i⟩
end
section
def aKq {t D:List UInt8} {b a:Nat} {c:UInt8} (d:D[a]?=some c) (f:b+a < t.length):(t.take b++(D.take a++t.drop (b+a))).set (b+a) c=t.take b++(D.take (a+1)++t.drop (b+(a+1))):=by
 have j:(t.take b).length=b:=by rw [zAj];omega
 obtain ⟨k,e⟩:=zAc.1 d;have i:(D.take a).length=a:=by rw [zAj];omega
 rw [zEs _ _ oM,j,zDP,zEs _ _ oM,i,zDK,zAx f,List.set_cons_zero,zAv,d];simp [zDp]
def aHJ (t a:List UInt8) {p j:Nat} (c:j<=a.length) (b:p+j<=t.length):(t.take p++(a.take j++t.drop (p+j))).length=t.length:=by
 rw [zAi,zAi,zAj,zAj,zAw];omega
end
section
open Go.RowKit Go.Shelf
def aIC {b:List Nat} {c a d:Nat} (f:b[c]?=some d):(b.set c a).Perm (a::aK b c):=by
 have i:=zX (s:=a) f;have j:=(fH f).symm.cons a;have k:(d::b.set c a).Perm (d::a::aK b c):=(i.trans j).trans (List.Perm.swap d a _);exact k.cons_inv
def aJi {c:List Nat} {b a i m o:Nat} (j:c[a]?=some m) (k:c[b]?=some o) (p:b≠a):(aK (c.set a i) b)[bN a b]?=some i:=by
 have l:=(zAc.1 k).1;have f:=(zAc.1 j).1;rw [eQ (by rw [zAt];exact l)];unfold bN;by_cases d:a > b
 .rw [zBx d,zBw oM,show a - 1+1=a by omega,zDq f]
 .rw [zBw d,zBx oM,zDq f]
def aGH {R:List Nat} {c row at_:Nat} {o:List (Nat×Nat)} (i:R.Nodup) (f:R[c]?=some at_) (ht:row < R.length) (p:∀b∈o,R[b.1]?=some b.2):∀b∈o.map (λb=>(mvR c row b.1,b.2)),(aT (aK R c) row at_)[b.1]?=some b.2:=λb q=>by
 obtain ⟨a,s,rfl⟩:=zAy.1 q;have m:=p a s;have j:ro R a.2=a.1:=gR i m;have k:=zAd m;have l:=gR i f;obtain ⟨v,x,y⟩:=zD i (t:=row) f ht;show (aT (aK R c) row at_)[mvR c row a.1]?=some a.2;have u:mvR c row a.1=ro (aT (aK R c) row at_) a.2:=by
  unfold mvR;by_cases d:a.1=c
  .have e:a.2=at_:=fL k (zAd f) (by rw [j,d,l]);rw [zBx d,e,x]
  .have e:a.2≠at_:=λe=>d (by rw [<-j,e,l]);rw [zBw d,y _ k e,j]
 rw [u];exact cE (v.mem_iff.2 k)
def LiveM.db {w a B gl gk i rate R P own d f j} (b:LiveM w B own gl gk i rate 0 R P d f j) (e:a=w∨a=w.setCell ⟨gl,3,none⟩ (.int .i64 1)):∃c:Int,(0<=c/\c<=1)/\LiveM a B own gl gk i rate c R P d f j/\LF B w a own own:=by
 rcases e with rfl | rfl;exact ⟨0,by omega,b,LF.i (own:=own) vR⟩;exact ⟨1,by omega,(b.ah 1).1,(b.ah 1).2⟩
def aMj {w B own gl t rate} (at_ y) (aa:LiveE w B own gl t rate) (cM:TabW w) (bu:0 < B) (cW:t.length<=895) (av:at_ < t.length) (dr:1<=rate) (ds:rate<=64):
 Calls prog 63 #[gl,(at_:Int),.int .u8 y.toNat] w (aD1 w B own gl (t.set at_ y) rate):=by
 obtain ⟨gk,Z,dv,aM,p,al,o,b6,aW,_⟩:=aa;obtain ⟨N,ad⟩:∃N,t.length=N+1:=⟨t.length - 1,by omega⟩;have ae:=ad;rw [ad] at o aW cW av;have av:at_<=N:=oM;obtain ⟨v,cN,d0⟩:=o.len ad;have L:=fA t;rw [ad] at L;obtain ⟨b,hs⟩:=eqx (y.toNat+1);have ch:b < 257:=zj y.toNat_lt
 have d3:0 < b:=oM;obtain ⟨S,I⟩:=eqx (aG t);have bI:aG (t.set at_ y)=S.set at_ b:=by rw [aKd t y oM,I,hs]
 have aP:=L.len;have bJ:∀m∈S,m < 257:=by rw [<-I];exact eX t
 rw [I] at L v aP;have M:=o.aa;rw [I] at M;have V:∀E,E<=N+1->E∈p:=λE dq=>M.mem oM;have b3:p.Nodup:=M.nodup;have c8:p.Perm (List.range (N+1+1)):=by have:=M.perm;rwa [aP] at this
 have aj:ro p at_≠ro p (at_+1):=λe=>by have:=fL (V at_ oM) (V (at_+1) oM) e;omega
 have bR:=qK M L (show 0 < at_+1 by omega) (show at_+1<=N+1 by omega);rw [zBb] at bR;obtain ⟨af,D⟩:=bR;have a3:=λd row bs=>aMG (s:=b) (n0:=d) (row:=row) (a:=bs) M L av d3;have ac:=λrow=>aI1 (S:=S) (s:=b) (row:=row) c8 L av;obtain ⟨c,ai⟩:=eqx (ro p at_);obtain ⟨i,aw⟩:=eqx (ro p (at_+1));have ak:p[c]?=some at_:=by rw [<-ai];exact cE (V at_ oM)
 have cc:p[i]?=some (at_+1):=by rw [<-aw];exact cE (V (at_+1) oM)
 have dp:c < N+2:=zj ((zAc.1 ak).1)
 have bQ:i < N+2:=zj ((zAc.1 cc).1)
 rw [ai] at aj af;rw [aw] at aj af D;rw [ai,aw] at a3 ac;obtain ⟨q,K⟩:=eqx (aH S p);rw [K] at v af D a3 ac;obtain ⟨u,b7⟩:=eqx (bS S at_);rw [b7] at a3 ac;obtain ⟨H,aS⟩:=eqx (S.getD at_ 0);rw [aS] at af D a3;have aO:q[c]?=some u:=by rw [<-K,<-b7];unfold aH;rw [zAf,ak];rfl
 have Q:∀m∈q,m < 257:=by rw [<-K];exact dR bJ
 have d1:u < 257:=Q u (zAd aO);have cR:H < 257:=Q H (zAd D);have a2:=o.live;rw [I,K] at a2;have a4:=o.ag;rw [I,K] at a4;have ck:∀m∈q.set i b,m < 257:=λm aF=>by rcases zER aF with ab | ab;exact Q m ab;omega
 have bU:∀m∈aK (q.set i b) c,m < 257:=rS ck;have cl:(q.set i b)[c]?=some u:=by rw [zDr (λe=>aj e.symm),aO]
 have ax:=cJ (l:=(q.set i b)) (k:=c) (by rw [zAt];omega);rw [zAt] at ax;have bV:=cJ (l:=q) (k:=i) oM;have cS:(aK (q.set i b) c)[bN i c]?=some b:=aJi D aO aj;have d4:aM.Perm (H::aK q i):=a4.trans (fH D).symm;obtain ⟨d,b0⟩:=eqx (uL (aK (q.set i b) c) (aK q i) b (bN i c));obtain ⟨O,T⟩:∃O:Int,(if at_=0 then -1 else ((ro p (at_ - 1):Nat):Int))=O:=⟨_,rfl⟩;obtain ⟨f,aQ⟩:∃f:Int,aC4 O (c:Int)=f:=⟨_,rfl⟩;have aR:f=if at_=0 then -1 else ((bN (ro p (at_ - 1)) c:Nat):Int):=by
  rw [<-aQ,<-T];by_cases j:at_=0
  .rw [zBx j,zBx j,aEK]
  .rw [zBw j,zBw j,mX]
 obtain ⟨row,aE⟩:∃row,(if u=b/\f<=(d:Int) then d+1 else d)=row:=⟨_,rfl⟩;have c4:d+(if H < b then 1 else 0)=q.countP (λm=>decide (m < b))+((aK (q.set i b) c).take (bN i c)).count b:=by rw [<-b0];unfold uL;rw [<-(fH D).countP_eq,zBn];simp only [zCa];omega
 obtain ⟨dt,c5⟩:=a3 d row f aR c4 aE.symm;have aN:=ac row;obtain ⟨d8,cn,co⟩:=zD b3 (t:=row) ak oM;have c9:=aGH (row:=row) b3 ak oM o.right;have cf:ro (aT (aK p c) row at_) at_=row:=cn;have bL:inI f (row:Int)=aOf (aT (aK p c) row at_) at_:=by
  rw [aR];unfold aOf;by_cases j:at_=0
  .rw [zBx j,zBx j,aH0]
  .rw [zBw j,zBw j,zH];rw [co (at_ - 1) (V _ oM) oM]
 obtain ⟨cw,bH⟩:=eqx (aT (aK p c) row at_);rw [bH] at c5 aN c9 cf bL;have d5:(aK q i++ [b]).Perm (aH (S.set at_ b) cw):=by rw [aN];refine (zGb).trans<|(aIC D).symm.trans ?_;exact (fH cl).symm.trans (fU _ _ _).symm
 have ca:al≠ []:=λe=>by obtain ⟨m,aF,_⟩:=b6;rw [e] at aF;cases aF
 have dn:=a2.q;have bO:∀a5,LiveM a5 B own gl gk Z rate 0 (N+1+1) (N+1+1) q aM al->Calls prog 106 #[gl,(at_:Int),(c:Int)] a5 λe w'=>e=.returned (.int .i64 O)/\VB B a5 w':=λa5 cK=>by by_cases j:at_=0;rw [zBx j] at T;subst j T;refine (qT c a5 gl).mono ?_;rintro e w' ⟨rfl,rfl⟩;exact ⟨rfl,VisK.refl _ _⟩;rw [zBw j] at T;obtain ⟨b1,b2⟩:=qK M L (show 0 < at_ by omega) oM;rw [K,ai] at b1 b2;have:=tR at_ cK oM b2 Q oM oM;rw [mZ a4,b1,T] at this;exact this
 have cP:-1000000<=O/\O<=1000000:=by rw [<-T];by_cases j:at_=0;rw [zBx j];omega;rw [zBw j];have du:ro p (at_ - 1) < p.length:=zDk.2 (V (at_ - 1) oM);omega
 have cO:-1000000<=f/\f<=1000000:=by rw [<-aQ];unfold aC4;split <;> omega
 have cX:d<=row/\row<=d+1:=by rw [<-aE];split <;> omega
 have aZ:=cD (a2.g a4).ai v oM;have cF:IntKind.i64.wrap ((N+1:Nat) - 1)=(N:Int):=zu
 have ci:H=b->aG (t.set at_ y)=aG t:=λe=>by
  rw [bI,I];apply zDs;intro d7;rw [zBm];by_cases j:at_=d7;subst j;rw [zBx rfl,zBx oM,<-e,<-aS,zAb,zAa oM];rfl
  .rw [zBw j]
 have br:=o;have bp:=o.right;have bq:=o.aa;have bf:=a2.a;have cQ:(at_:Int)<=N:=oM;obtain ⟨dj,cL⟩:=eqx (N+1);rw [cL] at aZ cF;unfold aD1;clear o ad M V L c8 b3 bH b7 d0 aP ai T aw cc aS aj a3 ac aR c4 d8 cn co;go_enter func63,ntmps63;go_wp2_with fail;refine aZ.mono ?_;clear aZ;rintro e w1 ⟨rfl,rfl⟩;go_wp2_with fail;refine (aEa bf oM cQ).mono ?_;rintro e w1 ⟨rfl,rfl⟩;obtain ⟨ay,aU⟩:=a2.ah 0;clear bf a2;generalize w.setCell ⟨gl,3,none⟩ (.int .i64 0)=w1 at ay aU⊢;have cg:Calls prog 66 #[gl,(at_:Int)] w1 λe w'=>e=.returned (.int .i64 c)/\VB B w1 w':=by have cT:=ay.g a4;exact gP B gl gk Z rate w1 (by rw [ae,I];rw [K];exact cT) bp bq (by rw [ae];omega) ak
 go_wp2_with fail;refine cg.mono ?_;clear cg;rintro e cq ⟨rfl,b9⟩;have bo:=(ay.b b9.1);have bg:=(aU.trans (LF.i (own:=own) b9));clear b9 ay aU;go_wp2_with fail;refine (rZ y cq).mono ?_;rintro e df ⟨rfl,bP⟩;rw [hs];have ba:VB B cq df:=kc bP;have ao:=(bo.b ba.1);have aI:=(bg.trans (LF.i (own:=own) ba));clear ba bP bo bg;have x:=ao.a.cell 0;have c7:=tM (ao.walk.at a4) D af Q (by rw [v];omega) (cM.bx aI bu) bu;go_wp2_with fail;refine c7.mono ?_;clear c7;rintro e dg ⟨rfl,bb⟩;have aL:=(ao.b bb.1);have bh:=(aI.trans (LF.i (own:=own) bb));clear bb x ao aI;have bM:=bO dg aL;clear bO;go_wp2_with fail;refine bM.mono ?_;clear bM;rintro e a5 ⟨rfl,bc⟩;have ap:=(aL.b bc.1);have bi:=(bh.trans (LF.i (own:=own) bc));clear bc aL bh;obtain ⟨dl,dk,c1,cm⟩:=ap.gw;have x:=ap.a.cell 0;have am:=c1.cell 0;have c0:=eR i H cm (by rw [v];exact bQ) (by have J:=D;rw [zAa (by rw [v];exact bQ)] at J;injection J) Q (by rw [v];omega);clear c1 cm;go_wp2_with fail;refine c0.mono ?_;clear c0;rintro e dy ⟨rfl,bd⟩;have a9:=(ap.b bd.1);have aJ:=(bi.trans (LF.i (own:=own) bd));clear bd x am ap bi;by_cases bt:H=b
 .have cC:((H:Int)==b)=true:=(by rw [bt];simp);go_wp2_with fail;go_ret;have a1:(t.set at_ y).length=t.length:=zAt ..;refine ⟨rfl,own,⟨gk,Z,0,aM,p,al,?_,b6,by rw [a1,ae];exact aW,by decide,by omega⟩,aJ⟩;rw [ci bt,a1,ae];refine ⟨bq,?_,br.ag,bp⟩;have:=a9;rw [I,K];exact this
 have cC:((H:Int)==b)=false:=by rw [zCb];omega
 clear br ci;have x:=a9.a.cell 0;have bT:=lQ a9.walk D ch Q (by rw [v];omega);go_wp2_with fail;refine bT.mono ?_;clear bT;rintro e dz ⟨rfl,own1,bv,bB⟩;obtain ⟨az,bW⟩:=a9.I bv bB;have bj:=(aJ.trans bW);clear bW bv bB x a9 aJ;have x:=az.a.cell 0;have hcut:=iM az.walk cl ck (by rw [zAt,v];omega);go_wp2_with fail;refine hcut.mono ?_;clear hcut;rintro e dA ⟨rfl,da,bw,bC⟩;obtain ⟨U,ah⟩:=az.I bw bC;have aq:=U;have a8:=(bj.trans ah);clear U ah bw bC x az bj;have x:=aq.a.cell 0;have ag:=nK aq.walk d4 cR (by rw [cN];omega);go_wp2_with fail;refine ag.mono ?_;clear ag;rintro e dh ⟨rfl,bx,bD⟩;obtain ⟨aY,bX⟩:=aq.I bx bD;have bk:=(a8.trans bX);clear bX bx bD x aq a8;have b8:=zN aY cS bU (zk ax v) (zk bV v);rw [b0] at b8;have b4:=nO (i:Int) (c:Int) dh oM;rw [mX] at b4;go_wp2_with fail;refine b4.mono ?_;clear b4;rintro e a6 ⟨rfl,rfl⟩;go_wp2_with fail;refine b8.mono ?_;clear b8;rintro e cr ⟨rfl,be⟩;have ar:=(aY.b be.1);have bl:=(bk.trans (LF.i (own:=da) be));clear be aY bk;have b5:=nO O (c:Int) cr cP;rw [aQ] at b5;go_wp2_with fail;refine b5.mono ?_;clear b5;rintro e a6 ⟨rfl,rfl⟩;go_upto_region 13 with fail;go_cut [90] from 83 to 129 (λan a7=>an=.bool (decide (u=b/\f<=(d:Int)))/\a7=cr)
 case first=>
  by_cases X:u=b
  .have cy:((u:Int)==b)=true:=(by rw [X];simp);by_cases Y:f<=(d:Int)
   .have cz:=zBz Y;have z:decide (u=b/\f<=(d:Int))=true:=zBz ⟨X,Y⟩;clear X Y;go_wp2_with fail;go_meet;exact ⟨by rw [z],rfl⟩
   .have cz:=zBy Y;have z:decide (u=b/\f<=(d:Int))=false:=zBy λaa=>Y aa.2;clear X Y;go_wp2_with fail;go_meet;exact ⟨by rw [z],rfl⟩
  .have cy:((u:Int)==b)=false:=(by rw [zCb];omega);have z:decide (u=b/\f<=(d:Int))=false:=zBy λaa=>X aa.1;clear X;go_wp2_with fail;go_meet;exact ⟨by rw [z],rfl⟩
 case rest=>
 obtain ⟨rfl,rfl⟩:=hcut;go_upto_if 90 with fail;go_cut [15] from 83 to 129 (λan a7=>an=.int .i64 row/\a7=wc)
 case first=>
  have J:=aE;by_cases W:u=b/\f<=(d:Int)
  .rw [zBx W] at J;have z:=zBz W;have cG:wrap64 (d+1)=(row:Int):=(by rw [<-J,dU oM oM];omega);rw [z];clear J W z;go_wp2_with fail;go_meet;exact ⟨by first | rfl | rw [cG],rfl⟩
  .rw [zBw W] at J;have z:=zBy W;rw [z];clear W z;go_wp2_with fail;go_meet;exact ⟨by rw [J],rfl⟩
 case rest=>
 obtain ⟨rfl,rfl⟩:=hcut;clear aE b0 cX;have x:=ar.a.cell 0;have cb:=iL row ar.walk d1 (zk ax v) bU (zk ax v);go_wp2_with fail;refine cb.mono ?_;clear cb;rintro e dB ⟨rfl,db,bz,bE⟩;obtain ⟨aB,bY⟩:=ar.I bz bE;have bm:=(bl.trans bY);clear bY bz bE x ar bl;have x:=aB.a.cell 0;have ag:=pD aB.walk ch (zk bV v);go_wp2_with fail;refine ag.mono ?_;clear ag;rintro e a6 ⟨rfl,bA,bF⟩;obtain ⟨a0,bZ⟩:=aB.I bA bF;have bn:=(bm.trans bZ);clear bZ bA bF x aB bm;have de:a6.cell? ⟨gl,3,none⟩=some (.int .i64 0):=(a0.a.cell 3).trans rfl;have cI:=a0.a.frozen 3;have cU:=a0.a.lt;have am:a6.cell? ⟨gl,1,none⟩=some (.pointer (some Z)):=(a0.a.cell 1).trans rfl;have cY:row < N+1+1:=oM;have cZ:c < N+1+1:=oM;have cd:N+1+1<=100000:=oM;go_upto_if 108 with fail;go_cut [16] from 109 to 129 (λan a7=>an=.int .i64 f/\(a7=a6∨a7=a6.setCell ⟨gl,3,none⟩ (.int .i64 1)))
 case first=>
  by_cases au:row=c
  .have cA:((row:Int)==c)=true:=(by rw [au];simp);have cB:((row:Int)!=c)=false:=(by rw [au];simp);clear au;go_wp2_with fail;go_meet;exact ⟨rfl,.inl rfl⟩
  .have cA:((row:Int)==c)=false:=(by rw [zCb];omega);have cB:((row:Int)!=c)=true:=(by rw [bne_iff_ne];omega);clear au;go_wp2_with fail;go_meet;exact ⟨rfl,.inr rfl⟩
 case rest=>
 obtain ⟨rfl,bK⟩:=hcut;obtain ⟨dw,cV,U,ah⟩:=a0.db bK;have a8:=(bn.trans ah);clear bK;clear ah de cI cU am a0 bn;have am:wc.cell? ⟨gl,1,none⟩=some (.pointer (some Z)):=(U.a.cell 1).trans rfl;have ce:=iB c U.perm cZ cY cd cd ca;go_wp2_with fail;refine ce.mono ?_;clear ce;rintro e ct ⟨rfl,⟨dd,aC,bG⟩,c2⟩;obtain ⟨c3,aV⟩:=U.S (bG.mono λy _ cH=>.inl cH) c2;obtain ⟨dx,c6⟩:=eqx (eD db wc.heap.size ct.heap.size 1);rw [c6] at c3 aV;have cv:=(a8.trans aV);clear aV bG c2 c6 am U a8;have aX:=zO (row:Int) ct cO;rw [bL] at aX;go_wp2_with fail;refine aX.mono ?_;clear aX;rintro e dC ⟨rfl,rfl⟩;have d2:∀E,Smp dd E↔Smp al E:=λE=>by constructor;rintro ⟨m,o,rfl⟩;obtain ⟨di,d6,e⟩:=zAy.1 (aC.subset o);exact ⟨di,d6,by rw [<-e]⟩;rintro ⟨m,o,rfl⟩;exact ⟨_,aC.symm.subset (zAy.2 ⟨m,o,rfl⟩),rfl⟩
 have aD:=qP ⟨c5,by rw [aN];exact c3,d5,λm o=>c9 m (aC.subset o),λE=>Iff.rfl,λdm e=>by
  subst e;have:=aC.length_eq;simp at this;exact ca (zBk this.symm),cv,⟨cV.1,by omega⟩⟩ oM oM (λm o=>by
  rcases zER o with ab | ab;exact bJ m ab
  .omega)
 rw [cf] at aD;unfold vH at aD;go_wp2_with fail;refine aD.mono ?_;clear aD;rintro e dD ⟨rfl,dc,d9,cx,cp,C⟩;have cu:=C;clear C;go_wp2_with fail;go_ret;have C:=cu;have a1:(t.set at_ y).length=N+1:=by rw [zAt,ae]
 have cj:Smp cp=Smp al:=funext λE=>propext ((C.ci E).trans (d2 E));refine ⟨rfl,dc,⟨gk,Z,d9,aK q i++ [b],cx,cp,?_,by rw [cj];exact b6,by rw [cj,a1];exact aW,C.bA.1,by rw [a1];have:=C.bA.2;omega⟩,C.lf⟩;rw [bI,a1];exact ⟨C.P.B,C.live,C.ag,C.right⟩
end
section
open Go.RowKit
def aBH {B own gs gl aA rate} (N) {t k} (c n) {A m} (U) {w} (C:StAt w B own gs gl aA rate t) (Y:TabW w) (J:0 < B) (K:t.length=N) (X:ArgZ w B own gs A m k) (b1:c+m<=N):
 Calls prog 23 #[gs,.agg #[(3:Int),(c:Int),(n:Int),.slice A m U]] w (aHB w B own gs gl aA rate (t.take c++(k++t.drop (c+k.length)))):=by
 have E:k.length=m:=by simpa using X.1.1
 rw [E];have l:=EdW.mk' 3 (c:Int) n A m U C;have aH:=X.b l.low;have aK:=LFS.j B gs own l.low;have a3:=sD (B:=B) (own:=own) (gs:=gs) (gl:=gl) (aA:=aA) (rate:=rate) (N:=N) (t:=t) c m l.st K;have af:dK N (c:Int) (m:Int)=true:=zBz oM;rw [af] at a3;have I:=l.box.cell 0;have az:=l.box.cell 1;have aC:=l.box.cell 2;have W:=l.box.cell 3;have aN:=C.n127;have ai:=C.len;rw [K] at aN ai;have ab:=Y.below l.low Y.pos;have aw:=l.st;have a7:=l.ap;have a8:=l.box;clear C X l af Y;go_enter func23,ntmps23;go_wp2_with fail;refine a3.mono ?_;rintro e w1 ⟨rfl,rfl⟩;clear a3;go_wp2_with fail;generalize w.alloc (.cells #[(3:Int),(c:Int),(n:Int),.slice A m U] 32)=w1 at*
 clear I az aC W;refine wp_region_any kR<|aQ (S:=(VB B)) (V:=(Vs [is w.heap.size,is (.int .i64 3),is (.bool false),is (.bool false),is undef,is undef,is undef,is undef,is undef,is undef,is undef,is undef,is undef,is undef,is undef,is undef,is undef,is undef,is (.bool false),is (.bool false)])) [27,28,29,30,31,32,33,34,35,36,37,38,39,40,41,42,43,44,45,26] _ rfl kR vR (λ_ _=>VisK.trans) (dI tA0) ?_ ?_
 .refine aL<|pH 3 (.pointer (some w.heap.size))<|sC (λ_ u b _ _ _ d _ _ _ q=>?_) ?_
  .have aT:_=_:=d 0 27 kR rfl;replace b:(VB B) w1 u:=bD b;have a1:=b.1.d a8 dC dC;have a9:=a1.cell 0;go_simp;exact q _ _ vR rfl
  refine pV 1 28<|pV 2 29<|aD ?_ ?_;exact sK 30 false λ_=>vR;refine aD ?_ ?_;exact sK 30 false λ_=>vR;refine aD ?_ ?_;exact sK 30 false λ_=>vR;refine aD ?_ ?_;exact sK 30 false λ_=>vR;refine aD ?_ ?_;exact sK 30 false λ_=>vR;refine aD ?_ ?_;exact sK 30 false λ_=>vR;refine aD ?_ ?_;exact sK 30 false λ_=>vR;refine aD ?_ ?_;exact sK 30 false λ_=>vR;refine aD ?_ ?_;exact sK 30 false λ_=>vR;refine aD ?_ ?_;exact sK 30 false λ_=>vR;refine aD ?_ ?_;exact sK 30 false λ_=>vR;refine aD ?_ ?_;exact sK 30 false λ_=>vR;refine aD ?_ ?_;exact sK 30 false λ_=>vR;refine aD ?_ ?_;exact sK 30 false λ_=>vR;refine pW 3 30 17 44<|pV 18 45 ?_;exact aB
 .intro z v b d;replace b:(VB B) w1 v:=bD b;have aa:z (.tmp 26)=.bool false:=d 19 26 rfl;simp only [zqq];rw [aa];clear d;have ak:=aw.G b.1;have a5:=LFS.i gs own b;have a0:=b.1.d a8 dC dC;have I:=a0.cell 0;have W:=a0.cell 3;have av:=(aK.trans a5);have ar:=(aH.step a5);have au:=(ab.G b J ab.pos);clear a5 b aa;go_wp2_with fail;clear I W;go_loopw [6,7,65] (λ_ _ Q wr=>∃(a:Nat) (own':Nat->Nat),a<=m/\Q=.int .i64 a/\StAt wr B own' gs gl aA rate (t.take c++(k.take a++t.drop (c+a)))/\LFS B gs v wr own own') (λ_ _ Q _=>m -(intOf Q).toNat)
  case atStart=>exact ⟨0,own,by omega,rfl,by rw [zDN,zDH,zBq,zAu];exact ak,LFS.refl _ _ _ _⟩
  case round=>
   obtain ⟨a,own',b0,rfl,s,y⟩:=hrel;by_cases aM:a < m
   .obtain ⟨x,Z⟩:∃x,k[a]?=some x:=⟨_,zAa (by rw [E];exact aM)⟩;have aj:c+a < t.length:=(by rw [K];omega);have L:=aHJ t k (p:=c) (j:=a) (by rw [E];omega) oM;have a4:=aHJ t k (p:=c) (j:=a+1) (by rw [E];omega) oM;rw [K] at L a4;have M:=λu (am:VB B wr u)=>aMj (w:=u) (B:=B) (own:=own') (gl:=gl) (t:=(t.take c++(k.take a++t.drop (c+a)))) (rate:=rate) (c+a) x (s.G am.1).live ((au.below (y.below ak.size) J).G am J (zj s.size)) J (by rw [L];omega) (by rw [L];omega) s.r1 s.r2;unfold aD1 at M;rw [aKq (t:=t) (D:=k) Z aj] at M;obtain ⟨ay,aO,rfl,aZ,ae⟩:=((ar.step y).1).2 oM;have aS:wr.cell? ⟨ay,aO+a,none⟩=some (.int .u8 x.toNat):=ae a _ (by rw [zAf,Z];rfl);have ad:=y.d a0 a7.x a7.ne dC dC;have I:=ad.cell 0;have aE:IntKind.i64.wrap (c+a)=((c+a:Nat):Int):=zu;clear L Z ae aj;go_wp2_with fail;refine wp_region_any kR<|cC (pre:=(λ_=>True)) (pJ:=(λH _=>H=.pointer (some gl))) B 9 [73,74,75,76,77,78,79,80,81] (λ_=>False) 3 [] [is gs,is gs,is gs,cO,is (.pointer (some ⟨w.heap.size,1,none⟩)),is (c:Int),is (a:Int),is (.int .i64 (c+a:Nat)),is (.int .u8 x.toNat)] _ rfl dC kR kR kR (trivial) (λ_ _ _ _ _=>trivial) (λ_ _ _ C _=>C) tA0 ?_ ?_
    .refine bB<|pH3 0 (.pointer (some gs))<|pV3 0 73<|pV3 1 74<|sC3 (λ_ u b _ _ _ _ d _ _ _ q=>?_) ?_
     .replace b:VFB B (λ_=>False) wr u:=fD b;have aU:_=_:=d 2 75 kR rfl;have a6:=b.y (λ_ _ o=>o);have aJ:=a6.1.d s.a dC dC;have a9:=aJ.cell 0;go_simp;exact q _ _ (lC (VFB.i vR)) rfl
     refine pH3 3 (.pointer (some w.heap.size))<|sC3 (λ_ u b _ _ _ _ d _ _ _ q=>?_) ?_
     .replace b:VFB B (λ_=>False) wr u:=fD b;have aV:_=_:=d 4 77 kR rfl;have a6:=b.y (λ_ _ o=>o);have a1:=a6.1.d ad dC dC;have a9:=a1.cell 1;go_simp;exact q _ _ (aI vR) rfl
     refine pH3 6 (.int .i64 a)<|sC3 (λ_ _ _ _ _ _ _ d _ _ _ q=>?_) ?_
     .have aW:_=_:=d 5 78 kR rfl;have aX:_=_:=d 6 79 kR rfl;go_simp;exact q _ _ (aI vR) (by first | rfl | exact congrArg (Value.int .i64) aE)
     refine pH3 7 (.int .u8 x.toNat) ?_;exact aB
    .intro z v o b d ac;replace b:VFB B (λ_=>False) wr v:=fD b;have an:(λH _=>H=.pointer (some gl)) (z (.tmp 76)) v:=d 3 76 dC rfl;have aF:z (.tmp 80)=.int .i64 (c+a:Nat):=d 7 80 dC rfl;have aG:z (.tmp 81)=.int .u8 x.toNat:=d 8 81 dC rfl;obtain ⟨aR,aq⟩:=ac 3 dC;have ao:(λH _=>H=.pointer (some gl)) aR v:=aq;clear aq ac;simp only [zqq];rw [aF];rw [aG];clear d;have O:=b.y (λ_ _ o=>o);rw [show z (.tmp 76)=_ from an];clear ao b an;change wpAny prog Region.Mode.any _ _ (1+o) (bT 9 10) _ v;rw [zCt 1 o];refine aY (f:=o) (i:=9) kR ?_;refine bJ rfl rfl ?_;generalize q:wpAny prog _ _ _ o _=K5;go_simp;refine (M v O).mono ?_;rintro e b2 ⟨rfl,aP,ag,ah⟩;subst q;refine bG kR ?_;have a2:=(s.G O.1).bl ag ah (by rw [a4];omega) (by rw [a4];have:=ai;omega);have ax:=a2.1;have T:=(y.trans ((LFS.i gs own' O).trans a2.2));clear a2 ag ah O s y M;go_wp2_with fail;go_roundw
     case rel=>exact ⟨a+1,aP,by omega,by go_num,ax,T⟩
     case measure=>exact zr
   .obtain rfl:a=m:=oM;have al:k.take a=k:=zAg (by rw [E];exact zAs _);rw [al] at s;clear al;have T:=(av.trans y);clear y;go_wp2_with fail;go_ret;exact ⟨rfl,own',s,T⟩
end
end Go.Proofs.YtknjfpcdhdmghaaGreatDoor
