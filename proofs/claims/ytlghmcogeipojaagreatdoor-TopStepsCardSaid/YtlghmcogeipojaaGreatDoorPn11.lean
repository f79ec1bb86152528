/- Lemmas of the walk. Conditions: each its own. -/
import Derived.Test.YtlghmcogeipojaaGreatDoorPn10
set_option linter.all false
set_option maxRecDepth 100000
set_option maxHeartbeats 8000000
open Go.Proofs.Tryz
namespace Go.Proofs.YtlghmcogeipojaaGreatDoor
open Go.RowKit Go.Shelf
section
def iA {a b} (c:a=b):Value.bool a=Value.bool b:=by rw [c]
section
variable {P : Program} (t e : TypeId) (sz : Nat) (ht : P.underlying t = some (.slice e)) (hs : ∀ w, (sizeOf e).run P w = .ok sz w)
include ht hs
end
end
section
section
variable {S R : List Nat} {N : Nat}
def aJ8 {c:List Nat} {a b s:Nat} (m:a < c.length) (o:a≠b):((aK (c.set b s) a).take (bN b a)).count s+(if a < b/\c.getD a 0=s then 1 else 0)=(c.take b).count s:=by
 have j:(c.set b s).take b=c.take b:=by
  apply zDs;intro q;rw [zBs,zBs];split
  .rw [zBm,zBw oM]
  rfl
 unfold bN;by_cases d:a < b
 .rw [zBx d];have k:(aK (c.set b s) a).take (b - 1)=aK (c.take b) a:=(by unfold aK;have f:((c.set b s).take a).length=a:=(by rw [zAj,zAt];omega);rw [zEI,f,zEy,Nat.min_eq_right oM,<-j,zEy,zCu oM,List.drop_take];congr 2;omega);rw [k];have p:a < (c.take b).length:=(by rw [zAj];omega);have l:(c.take b)[a]?=some (c.getD a 0):=(by rw [zBs,zBx d,zAb,zAa m];rfl);have:=(fH l).count_eq s;rw [<-this,zDg];by_cases i:c.getD a 0=s
  .simp [d,i]
  .simp [d,i]
 .rw [zBw d,zBw oM,zBq];unfold aK;have f:((c.set b s).take a).length=a:=(by rw [zAj,zAt];omega);rw [zEI,f,show b - a=0 by omega,zDN,zEa,zEy,zCu oM,j]
end
section
variable {S R : List Nat} {N : Nat}
def aMH (l:EndOk S N) {at_ b} (p:at_ < N) (hs:0 < b):EndOk (S.set at_ b) N:=by
 obtain ⟨i,j,k⟩:=l;have f:∀a,(S.set at_ b).getD a 0=if at_=a/\a < S.length then b else S.getD a 0:=λa=>by
  rw [zAb,zBm,zAb];by_cases c:at_=a
  .subst c;by_cases d:at_ < S.length
   .simp [d]
   .simp [d]
  .simp [c]
 refine ⟨by rw [zAt,i],?_,λo m=>?_⟩
 .rw [f,zBw oM,j]
 rw [f];split;exact hs;exact k o m
def aKr {S:List Nat} {at_ s:Nat} (c:at_ < S.length) (a:Nat):(S.set at_ s).getD a 0=if a=at_ then s else S.getD a 0:=by
 rw [zAb,zBm,zAb];by_cases b:a=at_
 .subst b;simp [c]
 .rw [zBw (λe=>b e.symm),zBw b]
def KS (S R:List Nat) (at_ b a:Nat):Bool:=decide (S.getD a 0 < b∨(S.getD a 0=b/\ro R (a+1) < ro R (at_+1)))
def aEN (W:IsSuf S R) (o:EndOk S (N+1)) {at_ j} (a5:at_<=N) (hs:0 < j) {row} (a6:row<=N+1) (x:∀b,b<=N+1->b≠at_->b+1≠at_->(bN (ro R b) (ro R at_) < row↔KS S R at_ j b=true)) (L:∀b,b+1=at_->(bN (ro R b) (ro R at_) < row->S.getD b 0<=j)/\(row<=bN (ro R b) (ro R at_)->j<=S.getD b 0)):
 Near (S.set at_ j) (aT (aK R (ro R at_)) row at_) (N+1) at_:=by
 have m:=W.P o;have a4:=o.len;have Y:=m.nodup;have l:∀a,a<=N+1->a∈R:=λa c=>m.mem.2 c;have C:=m.len;have J:∀a b,a<=N+1->b<=N+1->a≠b->ro R a≠ro R b:=λa b c d E e=>E (fL (l a c) (l b d) e);obtain ⟨U,K,v⟩:=zD Y (t:=row) (cE (l at_ oM)) oM;obtain ⟨k,X⟩:∃k,aT (aK R (ro R at_)) row at_=k:=⟨_,rfl⟩;rw [X] at U K v⊢;have u:∀a b,a<=N+1->b<=N+1->a≠at_->b≠at_->(ro k a < ro k b↔ro R a < ro R b):=λa b c d p T=>by rw [v a (l a c) p,v b (l b d) T];have y:=J a at_ c oM p;have a3:=J b at_ d oM T;unfold inR bN;split <;> split <;> split <;> split <;> omega
 have Q:∀a,a<=N+1->a≠at_->(ro k a < ro k at_↔bN (ro R a) (ro R at_) < row):=λa c p=>by rw [K,v a (l a c) p];unfold inR;split <;> omega
 have O:∀a,a<=N+1->a≠at_->(ro k at_ < ro k a↔¬bN (ro R a) (ro R at_) < row):=λa c p=>by rw [K,v a (l a c) p];unfold inR;split <;> omega
 have z:=aKr (s:=j) (show at_ < S.length by omega);refine ⟨aMH o oM hs,U.trans m.perm,λa b c d I=>?_,λa b c d E a7 a8=>?_⟩;rw [z,z];by_cases i:a=at_;subst i;rw [zBx rfl];by_cases f:b=a;rw [zBx f];exact zAs _;rw [zBw f];have y:=(O b d f).1 I;by_cases q:b+1=a;exact (L b q).2 oM;have:=x b d f q;unfold KS at this;rw [zCa] at this;omega;rw [zBw i];by_cases f:b=at_;subst f;rw [zBx rfl];have y:=(Q a c i).1 I;by_cases q:a+1=b;exact (L a q).1 y;have:=(x a c i q).1 y;unfold KS at this;rw [zCa] at this;omega;rw [zBw f];exact m.a9 a b c d ((u a b c d i f).1 I)
 .have D:∀H,H<=N+1->S.getD H 0≠0->H < N+1:=λH a1 a2=>zFO a1 λe=>by subst e;exact a2 o.last
  unfold wP;rw [z,z];by_cases i:a=at_;subst i;have f:b≠a:=λe=>E e.symm;rw [zBx rfl,zBw f,O b d f,x b d f oM];unfold KS;rw [zCa];by_cases M:S.getD b 0=j;have a0:=D b d oM;rw [u (a+1) (b+1) oM oM oM oM];have:=J (b+1) (a+1) oM oM oM;omega;omega
  .rw [zBw i];by_cases f:b=at_
   .subst f;rw [zBx rfl,Q a c i,x a c i oM];unfold KS;rw [zCa];by_cases M:S.getD a 0=j
    .have Z:=D a c oM;rw [u (a+1) (b+1) oM oM oM oM]
    omega
   .rw [zBw f,u a b c d i f,m.cons a b c d E oM oM];unfold wP;by_cases M:S.getD a 0=S.getD b 0
    .by_cases V:S.getD a 0=0;have a9:a=N+1:=zFo c (zCs.1 λC=>by have:=o.pos a C;omega);have aa:b=N+1:=zFo d (zCs.1 λC=>by have:=o.pos b C;omega);omega
     .have Z:=D a c V;have a0:=D b d oM;rw [u (a+1) (b+1) oM oM oM oM]
    omega
def aOk (U:IsSuf S R) (a3:EndOk S (N+1)) {at_ s} (X:at_<=N):(∀a,a<=N+1->a≠at_->(bN (ro R a) (ro R at_) < (aK R (ro R at_)).countP (KS S R at_ s)↔KS S R at_ s a=true))/\(aK R (ro R at_)).countP (KS S R at_ s)<=N+1:=by
 have f:=U.P a3;have ad:=f.nodup;have o:∀c,c<=N+1->c∈R:=λc q=>f.mem.2 q;obtain ⟨Q,x,y,T⟩:=aDg f.perm X;have H:∀c a,c<=N+1->a<=N+1->c≠a->ro R c≠ro R a:=λc a q u a5 e=>a5 (fL (o c q) (o a u) e);have J:∀ {d b:Nat},(aK R (ro R at_))[d]?=some b->b<=N+1/\b≠at_/\d=bN (ro R b) (ro R at_):=λ{d b} i=>by have k:=(T b).1 (zAd i);refine ⟨f.mem.1 k.1,k.2,?_⟩;have W:=y b k.1 k.2;obtain ⟨z,C⟩:=zAc.1 i;obtain ⟨D,E⟩:=zAc.1 W;rcases zDD d (bN (ro R b) (ro R at_)) with a | a | a;exact absurd (by rw [C,E]) (zAr.1 x _ _ z D a);exact a;exact absurd (by rw [C,E]) (zAr.1 x _ _ D z a)
 have a6:(aK R (ro R at_)).Pairwise λc a=>KS S R at_ s a=true->KS S R at_ s c=true:=by
  rw [zAr];intro d v Y Z ac m;obtain ⟨b,i⟩:=eqx ((aK R (ro R at_))[d]);obtain ⟨j,I⟩:=eqx ((aK R (ro R at_))[v]);have a1:(aK R (ro R at_))[d]?=some b:=by rw [zAa Y,i]
  have a2:(aK R (ro R at_))[v]?=some j:=by rw [zAa Z,I]
  rw [i];rw [I] at m;obtain ⟨K,a9,L⟩:=J a1;obtain ⟨M,aa,O⟩:=J a2;have ae:=H b at_ K oM a9;have af:=H j at_ M oM aa;have a4:ro R b < ro R j:=by unfold bN at L O;split at L <;> split at O <;> omega
  have a8:b≠j:=λe=>by subst e;omega
  have a0:=(f.cons b j K M a8 oM oM).1 a4;unfold wP at a0;unfold KS at m⊢;rw [zCa] at m⊢;omega
 refine ⟨λa u a7=>(aC2 a6 _ _ (y a (o a u) a7)).symm,?_⟩;have ab:=zBh (p:=KS S R at_ s) (l:=aK R (ro R at_));have V:=Q.length_eq;rw [zCg,f.len] at V;omega
def aOl (p:IsSuf S R) (i:EndOk S (N+1)) {at_ a} (u:at_<=N) (hs:0 < a):(aK R (ro R at_)).countP (KS S R at_ a)+(if S.getD at_ 0 < a then 1 else 0)=(aH S R).countP (λz=>decide (z < a))+(((aK ((aH S R).set (ro R (at_+1)) a) (ro R at_)).take (bN (ro R (at_+1)) (ro R at_))).count a+if ro R at_ < ro R (at_+1)/\bS S at_=a then 1 else 0):=by
 have c:=p.P i;have H:=c.nodup;have f:∀b,b<=N+1->b∈R:=λb y=>c.mem.2 y;obtain ⟨m,C,D,E⟩:=aDg c.perm u;have j:=cE (f at_ oM);have v:ro R at_ < (aH S R).length:=by rw [bY];exact (zAc.1 j).1
 have x:ro R at_≠ro R (at_+1):=λe=>by have:=fL (f at_ oM) (f (at_+1) oM) e;omega
 have q:(aH S R).getD (ro R at_) 0=bS S at_:=by unfold aH;rw [zAb,zAf,j];rfl
 have l:=aJ8 (s:=a) v x;rw [q] at l;rw [l];have k:=uM i c.perm hs (ro R (at_+1));unfold cR at k;rw [k];unfold aDc;rw [<-c.perm.countP_eq,<-m.countP_eq,zBn];have o:(aK R (ro R at_)).countP (λb=>decide (S.getD b 0 < a∨(S.getD b 0=a/\ro R (b+1) < ro R (at_+1))))=(aK R (ro R at_)).countP (KS S R at_ a):=rfl;rw [o];congr 1;by_cases d:S.getD at_ 0 < a
 .rw [zBx d,zBx (zBz (.inl d))]
 rw [zBw d,zBw];rw [zCa];omega
def aMG (m:IsSuf S R) (k:EndOk S (N+1)) {at_ s} (u:at_<=N) (hs:0 < s) {n0 row a} (K:a=if at_=0 then -1 else ((bN (ro R (at_ - 1)) (ro R at_):Nat):Int)) (X:n0+(if S.getD at_ 0 < s then 1 else 0)=(aH S R).countP (λU=>decide (U < s))+((aK ((aH S R).set (ro R (at_+1)) s) (ro R at_)).take (bN (ro R (at_+1)) (ro R at_))).count s) (o:row=if bS S at_=s/\a<=(n0:Int) then n0+1 else n0):
 row<=N+1/\Near (S.set at_ s) (aT (aK R (ro R at_)) row at_) (N+1) at_:=by
 have H:=m.P k;have v:∀c,c<=N+1->c∈R:=λc d=>H.mem.2 d;have J:=k.len;have x:∀c b,c<=N+1->b<=N+1->c≠b->ro R c≠ro R b:=λc b d f z e=>z (fL (v c d) (v b f) e);obtain ⟨p,C⟩:=aOk (s:=s) m k u;have L:=aOl m k u hs;obtain ⟨l,O⟩:=eqx ((aK R (ro R at_)).countP (KS S R at_ s));rw [O] at p C L;have hrel:n0+(if ro R at_ < ro R (at_+1)/\bS S at_=s then 1 else 0)=l:=oM;have M:(row=l)∨(∃b,b+1=at_/\S.getD b 0=s/\bN (ro R b) (ro R at_)=l/\row=l+1):=by
  by_cases j:bS S at_=s
  .have y:at_≠0:=λe=>by subst e;rw [bV oM,J,zBb,k.last] at j;omega
   obtain ⟨b,rfl⟩:∃b,at_=b+1:=⟨at_ - 1,by omega⟩;rw [bL oM] at j;rw [zBw y,zBb] at K;have f:=p b oM oM;unfold KS at f;rw [zCa,j] at f;rw [bL oM,j] at hrel o;by_cases q:ro R (b+1) < ro R (b+1+1);left;rw [zBx ⟨q,rfl⟩] at hrel;have:bN (ro R b) (ro R (b+1)) < l:=f.2 (.inr ⟨rfl,q⟩);rw [zBx ⟨rfl,by omega⟩] at o;omega
   .rw [zBw (λe=>q e.1)] at hrel;have V:¬bN (ro R b) (ro R (b+1)) < l:=λe=>by rcases f.1 e with E | E;omega;exact q E.2
    by_cases D:bN (ro R b) (ro R (b+1))=l;right;rw [zBx ⟨rfl,by omega⟩] at o;exact ⟨b,rfl,j,D,by omega⟩;left;rw [zBw (λe=>D oM)] at o;omega
  left;rw [zBw (λe=>j e.2)] at hrel;rw [zBw (λe=>j e.1)] at o;omega
 have Q:∀c b,c<=N+1->b<=N+1->c≠at_->b≠at_->c≠b->bN (ro R c) (ro R at_)≠bN (ro R b) (ro R at_):=λc b d f i T z=>by have a2:=x c at_ d oM i;have a3:=x b at_ f oM T;have a4:=x c b d f z;unfold bN;split <;> split <;> omega
 rcases M with rfl |⟨b,Z,a0,a1,rfl⟩;refine ⟨C,aEN m k u hs C (λc d i _=>p c d i) (λc i=>?_)⟩;have:=p c oM oM;unfold KS at this;rw [zCa] at this;omega;have W:bN (ro R b) (ro R at_) < N+1:=(by have y:=(zAc.1 (cE (v b oM))).1;have I:=(zAc.1 (cE (v at_ oM))).1;rw [H.len] at y I;have:=x b at_ oM oM oM;unfold bN;split <;> omega);refine ⟨by omega,aEN m k u hs oM (λc d i Y=>?_) (λc i=>?_)⟩;rw [<-p c d i];have:=Q c b d oM i oM oM;omega;obtain rfl:c=b:=oM;omega
def aI1 (d:R.Perm (List.range (N+1+1))) (o:EndOk S (N+1)) {at_ s row} (v:at_<=N):aH (S.set at_ s) (aT (aK R (ro R at_)) row at_)=aT (aK ((aH S R).set (ro R (at_+1)) s) (ro R at_)) row (bS S at_):=by
 have q:R.Nodup:=d.nodup_iff.2 zDl;have u:=o.len;have p:∀a,a∈R->a<=N+1:=λa f=>by have:=zCj.1 (d.mem_iff.1 f);omega
 have i:at_+1∈R:=d.mem_iff.2 (zCj.2 oM);have j:=aKr (s:=s) (show at_ < S.length by omega);have k:∀a,a<=N+1->bS (S.set at_ s) a=if a=at_+1 then s else bS S a:=λa x=>by
  rcases a with _ | a
  .rw [zBw oM,bV (by rw [zAt];omega),bV oM,zAt,j,zBw oM]
  .rw [bL (by rw [zAt];omega),bL oM,j];by_cases c:a=at_
   .rw [zBx c,zBx oM]
   .rw [zBw c,zBw oM]
 unfold aH;rw [qB,uY,k at_ oM,zBw oM];congr 2;apply zDs;intro m;rw [zAf,zBm,zAf];cases b:R[m]? with
 | none=>
  have:¬ro R (at_+1)=m:=λe=>by rw [<-e,cE i] at b;cases b
  rw [zBw this];rfl
 | some a=>
  have f:=zAd b;have l:=gR q b;show some (bS (S.set at_ s) a)=_;rw [k a (p a f)];by_cases c:a=at_+1
  .subst c;rw [zBx rfl,zBx l,zBx (by rw [l];simpa using (zAc.1 b).1)]
  rw [zBw c,zBw (λe=>c ?_)];rfl;rw [<-e,cE i] at b;injection b with b;exact b.symm
end
def aKd (t) {a} (b) (c:a < t.length):aG (t.set a b)=(aG t).set a (b.toNat+1):=by
 unfold aG dQ;rw [zGi];exact (List.set_append_left _ _ (by simpa using c)).symm
end
section
def uA (a n:Int) (b:Nat):Int:=if a=1 then 0 else if a=3 then (b:Int) else n
def oS {B own gs gl aA rate} (N) {t} (b f n A d j) {w} (o:StAt w B own gs gl aA rate t) (p:t.length=N) (a:dK N f (uA b n d)=false):
 Calls prog 16 #[gs,.agg #[(b:Int),(f:Int),(n:Int),.slice A d j]] w λe w'=>e=.returned (.int .i64 2)/\Below w.heap.size w w':=by
 have i:Below w.heap.size w (w.alloc (.cells #[(b:Int),(f:Int),(n:Int),.slice A d j] 32)):=bR.alloc nL _;have m:=λq=>sD f q (o.G (kb i)) p;have c:=kd w 32 #[(b:Int),(f:Int),(n:Int),.slice A d j];have u:=c.cell 0;have v:=c.cell 1;have x:=c.cell 2;have y:=c.cell 3;clear o c;unfold uA at a;by_cases k:b=1
 .subst k;rw [zBx rfl] at a;go_enter func16,ntmps16;go_wp2_with fail;refine (m 0).mono ?_;rintro e w1 ⟨rfl,rfl⟩;rw [a];go_wp2_with fail;go_ret;exact ⟨rfl,i⟩
 .rw [zBw k] at a;by_cases l:b=3
  .subst l;rw [zBx rfl] at a;go_enter func16,ntmps16;go_wp2_with fail;refine (m (d:Int)).mono ?_;rintro e w1 ⟨rfl,rfl⟩;rw [a];go_wp2_with fail;go_ret;exact ⟨rfl,i⟩
  .rw [zBw l] at a;have b1:(b==1)=false:=zCb.2 k;have s:(b==3)=false:=zCb.2 l;go_enter func16,ntmps16;go_wp2_with fail;refine (m n).mono ?_;rintro e w1 ⟨rfl,rfl⟩;rw [a];go_wp2_with fail;go_ret;exact ⟨rfl,i⟩
end
def aKq {t D:List UInt8} {b a:Nat} {c:UInt8} (d:D[a]?=some c) (f:b+a < t.length):(t.take b++(D.take a++t.drop (b+a))).set (b+a) c=t.take b++(D.take (a+1)++t.drop (b+(a+1))):=by
 have j:(t.take b).length=b:=by rw [zAj];omega
 obtain ⟨k,e⟩:=zAc.1 d;have i:(D.take a).length=a:=by rw [zAj];omega
 rw [zEs _ _ oM,j,zDP,zEs _ _ oM,i,zDK,zAx f,List.set_cons_zero,zAv,d];simp [zDp]
def aHJ (t a:List UInt8) {p j:Nat} (c:j<=a.length) (b:p+j<=t.length):(t.take p++(a.take j++t.drop (p+j))).length=t.length:=by
 rw [zAi,zAi,zAj,zAj,zAw];omega
def aIC {b:List Nat} {c a d:Nat} (f:b[c]?=some d):(b.set c a).Perm (a::aK b c):=by
 have i:=zX (s:=a) f;have j:=(fH f).symm.cons a;have k:(d::b.set c a).Perm (d::a::aK b c):=(i.trans j).trans (List.Perm.swap d a _);exact k.cons_inv
def aJi {c:List Nat} {b a i m o:Nat} (j:c[a]?=some m) (k:c[b]?=some o) (p:b≠a):(aK (c.set a i) b)[bN a b]?=some i:=by
 have l:=(zAc.1 k).1;have f:=(zAc.1 j).1;rw [eQ (by rw [zAt];exact l)];unfold bN;by_cases d:a > b
 .rw [zBx d,zBw oM,show a - 1+1=a by omega,zDq f]
 .rw [zBw d,zBx oM,zDq f]
def aGH {R:List Nat} {c row at_:Nat} {o:List (Nat×Nat)} (i:R.Nodup) (f:R[c]?=some at_) (ht:row < R.length) (p:∀b∈o,R[b.1]?=some b.2):∀b∈o.map (λb=>(mvR c row b.1,b.2)),(aT (aK R c) row at_)[b.1]?=some b.2:=λb q=>by
 obtain ⟨a,s,rfl⟩:=zAy.1 q;have m:=p a s;have j:ro R a.2=a.1:=gR i m;have k:=zAd m;have l:=gR i f;obtain ⟨v,x,y⟩:=zD i (t:=row) f ht;show (aT (aK R c) row at_)[mvR c row a.1]?=some a.2;have u:mvR c row a.1=ro (aT (aK R c) row at_) a.2:=by
  unfold mvR;by_cases d:a.1=c
  .have e:a.2=at_:=fL k (zAd f) (by rw [j,d,l]);rw [zBx d,e,x]
  .have e:a.2≠at_:=λe=>d (by rw [<-j,e,l]);rw [zBw d,y _ k e,j]
 rw [u];exact cE (v.mem_iff.2 k)
def LiveM.db {w a B gl gk i rate R P own d f j} (b:LiveM w B own gl gk i rate 0 R P d f j) (e:a=w∨a=w.setCell ⟨gl,3,none⟩ (.int .i64 1)):∃c:Int,(0<=c/\c<=1)/\LiveM a B own gl gk i rate c R P d f j/\LF B w a own own:=by
 rcases e with rfl | rfl;exact ⟨0,by omega,b,LF.i (own:=own) vR⟩;exact ⟨1,by omega,(b.ah 1).1,(b.ah 1).2⟩
def aMj {w B own gl t rate} (at_ y) (aa:LiveE w B own gl t rate) (cM:TabW w) (bu:0 < B) (cW:t.length<=895) (av:at_ < t.length) (dr:1<=rate) (ds:rate<=64):
 Calls prog 48 #[gl,(at_:Int),.int .u8 y.toNat] w (aD1 w B own gl (t.set at_ y) rate):=by
 obtain ⟨gk,Z,dv,aM,p,al,o,b6,aW,_⟩:=aa;obtain ⟨N,ad⟩:∃N,t.length=N+1:=⟨t.length - 1,by omega⟩;have ae:=ad;rw [ad] at o aW cW av;have av:at_<=N:=oM;obtain ⟨v,cN,d0⟩:=o.len ad;have L:=fA t;rw [ad] at L;obtain ⟨b,hs⟩:=eqx (y.toNat+1);have ch:b < 257:=zj y.toNat_lt
 have d3:0 < b:=oM;obtain ⟨S,I⟩:=eqx (aG t);have bI:aG (t.set at_ y)=S.set at_ b:=by rw [aKd t y oM,I,hs]
 have aP:=L.len;have bJ:∀m∈S,m < 257:=by rw [<-I];exact eX t
 rw [I] at L v aP;have M:=o.aa;rw [I] at M;have V:∀E,E<=N+1->E∈p:=λE dq=>M.mem oM;have b3:p.Nodup:=M.nodup;have c8:p.Perm (List.range (N+1+1)):=by have:=M.perm;rwa [aP] at this
 have aj:ro p at_≠ro p (at_+1):=λe=>by have:=fL (V at_ oM) (V (at_+1) oM) e;omega
 have bR:=qK M L (show 0 < at_+1 by omega) (show at_+1<=N+1 by omega);rw [zBb] at bR;obtain ⟨af,D⟩:=bR;have a3:=λd row bs=>aMG (s:=b) (n0:=d) (row:=row) (a:=bs) M L av d3;have ac:=λrow=>aI1 (S:=S) (s:=b) (row:=row) c8 L av;obtain ⟨c,ai⟩:=eqx (ro p at_);obtain ⟨i,aw⟩:=eqx (ro p (at_+1));have ak:p[c]?=some at_:=by rw [<-ai];exact cE (V at_ oM)
 have cc:p[i]?=some (at_+1):=by rw [<-aw];exact cE (V (at_+1) oM)
 have dp:c < N+2:=zj ((zAc.1 ak).1)
 have bQ:i < N+2:=zj ((zAc.1 cc).1)
 rw [ai] at aj af;rw [aw] at aj af D;rw [ai,aw] at a3 ac;obtain ⟨q,K⟩:=eqx (aH S p);rw [K] at v af D a3 ac;obtain ⟨u,b7⟩:=eqx (bS S at_);rw [b7] at a3 ac;obtain ⟨H,aS⟩:=eqx (S.getD at_ 0);rw [aS] at af D a3;have aO:q[c]?=some u:=by rw [<-K,<-b7];unfold aH;rw [zAf,ak];rfl
 have Q:∀m∈q,m < 257:=by rw [<-K];exact dR bJ
 have d1:u < 257:=Q u (zAd aO);have cR:H < 257:=Q H (zAd D);have a2:=o.live;rw [I,K] at a2;have a4:=o.ag;rw [I,K] at a4;have ck:∀m∈q.set i b,m < 257:=λm aF=>by rcases zER aF with ab | ab;exact Q m ab;omega
 have bU:∀m∈aK (q.set i b) c,m < 257:=rS ck;have cl:(q.set i b)[c]?=some u:=by rw [zDr (λe=>aj e.symm),aO]
 have ax:=cJ (l:=(q.set i b)) (k:=c) (by rw [zAt];omega);rw [zAt] at ax;have bV:=cJ (l:=q) (k:=i) oM;have cS:(aK (q.set i b) c)[bN i c]?=some b:=aJi D aO aj;have d4:aM.Perm (H::aK q i):=a4.trans (fH D).symm;obtain ⟨d,b0⟩:=eqx (uL (aK (q.set i b) c) (aK q i) b (bN i c));obtain ⟨O,T⟩:∃O:Int,(if at_=0 then -1 else ((ro p (at_ - 1):Nat):Int))=O:=⟨_,rfl⟩;obtain ⟨f,aQ⟩:∃f:Int,aC4 O (c:Int)=f:=⟨_,rfl⟩;have aR:f=if at_=0 then -1 else ((bN (ro p (at_ - 1)) c:Nat):Int):=by
  rw [<-aQ,<-T];by_cases j:at_=0
  .rw [zBx j,zBx j,aEK]
  .rw [zBw j,zBw j,mX]
 obtain ⟨row,aE⟩:∃row,(if u=b/\f<=(d:Int) then d+1 else d)=row:=⟨_,rfl⟩;have c4:d+(if H < b then 1 else 0)=q.countP (λm=>decide (m < b))+((aK (q.set i b) c).take (bN i c)).count b:=by rw [<-b0];unfold uL;rw [<-(fH D).countP_eq,zBn];simp only [zCa];omega
 obtain ⟨dt,c5⟩:=a3 d row f aR c4 aE.symm;have aN:=ac row;obtain ⟨d8,cn,co⟩:=zD b3 (t:=row) ak oM;have c9:=aGH (row:=row) b3 ak oM o.right;have cf:ro (aT (aK p c) row at_) at_=row:=cn;have bL:inI f (row:Int)=aOf (aT (aK p c) row at_) at_:=by
  rw [aR];unfold aOf;by_cases j:at_=0
  .rw [zBx j,zBx j,aH0]
  .rw [zBw j,zBw j,zH];rw [co (at_ - 1) (V _ oM) oM]
 obtain ⟨cw,bH⟩:=eqx (aT (aK p c) row at_);rw [bH] at c5 aN c9 cf bL;have d5:(aK q i++ [b]).Perm (aH (S.set at_ b) cw):=by rw [aN];refine (zGb).trans<|(aIC D).symm.trans ?_;exact (fH cl).symm.trans (fU _ _ _).symm
 have ca:al≠ []:=λe=>by obtain ⟨m,aF,_⟩:=b6;rw [e] at aF;cases aF
 have dn:=a2.q;have bO:∀a5,LiveM a5 B own gl gk Z rate 0 (N+1+1) (N+1+1) q aM al->Calls prog 90 #[gl,(at_:Int),(c:Int)] a5 λe w'=>e=.returned (.int .i64 O)/\VB B a5 w':=λa5 cK=>by by_cases j:at_=0;rw [zBx j] at T;subst j T;refine (qT c a5 gl).mono ?_;rintro e w' ⟨rfl,rfl⟩;exact ⟨rfl,VisK.refl _ _⟩;rw [zBw j] at T;obtain ⟨b1,b2⟩:=qK M L (show 0 < at_ by omega) oM;rw [K,ai] at b1 b2;have:=tR at_ cK oM b2 Q oM oM;rw [mZ a4,b1,T] at this;exact this
 have cP:-1000000<=O/\O<=1000000:=by rw [<-T];by_cases j:at_=0;rw [zBx j];omega;rw [zBw j];have du:ro p (at_ - 1) < p.length:=zDk.2 (V (at_ - 1) oM);omega
 have cO:-1000000<=f/\f<=1000000:=by rw [<-aQ];unfold aC4;split <;> omega
 have cX:d<=row/\row<=d+1:=by rw [<-aE];split <;> omega
 have aZ:=cD (a2.g a4).ai v oM;have cF:IntKind.i64.wrap ((N+1:Nat) - 1)=(N:Int):=zu
 have ci:H=b->aG (t.set at_ y)=aG t:=λe=>by
  rw [bI,I];apply zDs;intro d7;rw [zBm];by_cases j:at_=d7;subst j;rw [zBx rfl,zBx oM,<-e,<-aS,zAb,zAa oM];rfl
  .rw [zBw j]
 have br:=o;have bp:=o.right;have bq:=o.aa;have bf:=a2.a;have cQ:(at_:Int)<=N:=oM;obtain ⟨dj,cL⟩:=eqx (N+1);rw [cL] at aZ cF;unfold aD1;clear o ad M V L c8 b3 bH b7 d0 aP ai T aw cc aS aj a3 ac aR c4 d8 cn co;go_enter func48,ntmps48;go_wp2_with fail;refine aZ.mono ?_;clear aZ;rintro e w1 ⟨rfl,rfl⟩;go_wp2_with fail;refine (aEa bf oM cQ).mono ?_;rintro e w1 ⟨rfl,rfl⟩;obtain ⟨ay,aU⟩:=a2.ah 0;clear bf a2;generalize w.setCell ⟨gl,3,none⟩ (.int .i64 0)=w1 at ay aU⊢;have cg:Calls prog 51 #[gl,(at_:Int)] w1 λe w'=>e=.returned (.int .i64 c)/\VB B w1 w':=by have cT:=ay.g a4;exact gP B gl gk Z rate w1 (by rw [ae,I];rw [K];exact cT) bp bq (by rw [ae];omega) ak
 go_wp2_with fail;refine cg.mono ?_;clear cg;rintro e cq ⟨rfl,b9⟩;have bo:=(ay.b b9.1);have bg:=(aU.trans (LF.i (own:=own) b9));clear b9 ay aU;go_wp2_with fail;refine (rZ y cq).mono ?_;rintro e df ⟨rfl,bP⟩;rw [hs];have ba:VB B cq df:=kc bP;have ao:=(bo.b ba.1);have aI:=(bg.trans (LF.i (own:=own) ba));clear ba bP bo bg;have x:=ao.a.cell 0;have c7:=tM (ao.walk.at a4) D af Q (by rw [v];omega) (cM.bx aI bu) bu;go_wp2_with fail;refine c7.mono ?_;clear c7;rintro e dg ⟨rfl,bb⟩;have aL:=(ao.b bb.1);have bh:=(aI.trans (LF.i (own:=own) bb));clear bb x ao aI;have bM:=bO dg aL;clear bO;go_wp2_with fail;refine bM.mono ?_;clear bM;rintro e a5 ⟨rfl,bc⟩;have ap:=(aL.b bc.1);have bi:=(bh.trans (LF.i (own:=own) bc));clear bc aL bh;obtain ⟨dl,dk,c1,cm⟩:=ap.gw;have x:=ap.a.cell 0;have am:=c1.cell 0;have c0:=eR i H cm (by rw [v];exact bQ) (by have J:=D;rw [zAa (by rw [v];exact bQ)] at J;injection J) Q (by rw [v];omega);clear c1 cm;go_wp2_with fail;refine c0.mono ?_;clear c0;rintro e dy ⟨rfl,bd⟩;have a9:=(ap.b bd.1);have aJ:=(bi.trans (LF.i (own:=own) bd));clear bd x am ap bi;by_cases bt:H=b
 .have cC:((H:Int)==b)=true:=(by rw [bt];simp);go_wp2_with fail;go_ret;have a1:(t.set at_ y).length=t.length:=zAt ..;refine ⟨rfl,own,⟨gk,Z,0,aM,p,al,?_,b6,by rw [a1,ae];exact aW,by decide,by omega⟩,aJ⟩;rw [ci bt,a1,ae];refine ⟨bq,?_,br.ag,bp⟩;have:=a9;rw [I,K];exact this
 have cC:((H:Int)==b)=false:=by rw [zCb];omega
 clear br ci;have x:=a9.a.cell 0;have bT:=lQ a9.walk D ch Q (by rw [v];omega);go_wp2_with fail;refine bT.mono ?_;clear bT;rintro e dz ⟨rfl,own1,bv,bB⟩;obtain ⟨az,bW⟩:=a9.I bv bB;have bj:=(aJ.trans bW);clear bW bv bB x a9 aJ;have x:=az.a.cell 0;have hcut:=iM az.walk cl ck (by rw [zAt,v];omega);go_wp2_with fail;refine hcut.mono ?_;clear hcut;rintro e dA ⟨rfl,da,bw,bC⟩;obtain ⟨U,ah⟩:=az.I bw bC;have aq:=U;have a8:=(bj.trans ah);clear U ah bw bC x az bj;have x:=aq.a.cell 0;have ag:=nK aq.walk d4 cR (by rw [cN];omega);go_wp2_with fail;refine ag.mono ?_;clear ag;rintro e dh ⟨rfl,bx,bD⟩;obtain ⟨aY,bX⟩:=aq.I bx bD;have bk:=(a8.trans bX);clear bX bx bD x aq a8;have b8:=zN aY cS bU (zk ax v) (zk bV v);rw [b0] at b8;have b4:=nO (i:Int) (c:Int) dh oM;rw [mX] at b4;go_wp2_with fail;refine b4.mono ?_;clear b4;rintro e a6 ⟨rfl,rfl⟩;go_wp2_with fail;refine b8.mono ?_;clear b8;rintro e cr ⟨rfl,be⟩;have ar:=(aY.b be.1);have bl:=(bk.trans (LF.i (own:=da) be));clear be aY bk;have b5:=nO O (c:Int) cr cP;rw [aQ] at b5;go_wp2_with fail;refine b5.mono ?_;clear b5;rintro e a6 ⟨rfl,rfl⟩;go_upto_region 13 with fail;go_cut [90] from 83 to 129 (λan a7=>an=.bool (decide (u=b/\f<=(d:Int)))/\a7=cr)
 case first=>
  by_cases X:u=b
  .have cy:((u:Int)==b)=true:=(by rw [X];simp);by_cases Y:f<=(d:Int)
   .have cz:=zBz Y;have z:decide (u=b/\f<=(d:Int))=true:=zBz ⟨X,Y⟩;clear X Y;go_wp2_with fail;go_meet;exact ⟨by rw [z],rfl⟩
   .have cz:=zBy Y;have z:decide (u=b/\f<=(d:Int))=false:=zBy λaa=>Y aa.2;clear X Y;go_wp2_with fail;go_meet;exact ⟨by rw [z],rfl⟩
  .have cy:((u:Int)==b)=false:=(by rw [zCb];omega);have z:decide (u=b/\f<=(d:Int))=false:=zBy λaa=>X aa.1;clear X;go_wp2_with fail;go_meet;exact ⟨by rw [z],rfl⟩
 case rest=>
 obtain ⟨rfl,rfl⟩:=hcut;go_upto_if 90 with fail;go_cut [15] from 83 to 129 (λan a7=>an=.int .i64 row/\a7=wc)
 case first=>
  have J:=aE;by_cases W:u=b/\f<=(d:Int)
  .rw [zBx W] at J;have z:=zBz W;have cG:wrap64 (d+1)=(row:Int):=(by rw [<-J,dU oM oM];omega);rw [z];clear J W z;go_wp2_with fail;go_meet;exact ⟨by first | rfl | rw [cG],rfl⟩
  .rw [zBw W] at J;have z:=zBy W;rw [z];clear W z;go_wp2_with fail;go_meet;exact ⟨by rw [J],rfl⟩
 case rest=>
 obtain ⟨rfl,rfl⟩:=hcut;clear aE b0 cX;have x:=ar.a.cell 0;have cb:=iL row ar.walk d1 (zk ax v) bU (zk ax v);go_wp2_with fail;refine cb.mono ?_;clear cb;rintro e dB ⟨rfl,db,bz,bE⟩;obtain ⟨aB,bY⟩:=ar.I bz bE;have bm:=(bl.trans bY);clear bY bz bE x ar bl;have x:=aB.a.cell 0;have ag:=pD aB.walk ch (zk bV v);go_wp2_with fail;refine ag.mono ?_;clear ag;rintro e a6 ⟨rfl,bA,bF⟩;obtain ⟨a0,bZ⟩:=aB.I bA bF;have bn:=(bm.trans bZ);clear bZ bA bF x aB bm;have de:a6.cell? ⟨gl,3,none⟩=some (.int .i64 0):=(a0.a.cell 3).trans rfl;have cI:=a0.a.frozen 3;have cU:=a0.a.lt;have am:a6.cell? ⟨gl,1,none⟩=some (.pointer (some Z)):=(a0.a.cell 1).trans rfl;have cY:row < N+1+1:=oM;have cZ:c < N+1+1:=oM;have cd:N+1+1<=100000:=oM;go_upto_if 108 with fail;go_cut [16] from 109 to 129 (λan a7=>an=.int .i64 f/\(a7=a6∨a7=a6.setCell ⟨gl,3,none⟩ (.int .i64 1)))
 case first=>
  by_cases au:row=c
  .have cA:((row:Int)==c)=true:=(by rw [au];simp);have cB:((row:Int)!=c)=false:=(by rw [au];simp);clear au;go_wp2_with fail;go_meet;exact ⟨rfl,.inl rfl⟩
  .have cA:((row:Int)==c)=false:=(by rw [zCb];omega);have cB:((row:Int)!=c)=true:=(by rw [bne_iff_ne];omega);clear au;go_wp2_with fail;go_meet;exact ⟨rfl,.inr rfl⟩
 case rest=>
 obtain ⟨rfl,bK⟩:=hcut;obtain ⟨dw,cV,U,ah⟩:=a0.db bK;have a8:=(bn.trans ah);clear bK;clear ah de cI cU am a0 bn;have am:wc.cell? ⟨gl,1,none⟩=some (.pointer (some Z)):=(U.a.cell 1).trans rfl;have ce:=iB c U.perm cZ cY cd cd ca;go_wp2_with fail;refine ce.mono ?_;clear ce;rintro e ct ⟨rfl,⟨dd,aC,bG⟩,c2⟩;obtain ⟨c3,aV⟩:=U.S (bG.mono λy _ cH=>.inl cH) c2;obtain ⟨dx,c6⟩:=eqx (eD db wc.heap.size ct.heap.size 1);rw [c6] at c3 aV;have cv:=(a8.trans aV);clear aV bG c2 c6 am U a8;have aX:=zO (row:Int) ct cO;rw [bL] at aX;go_wp2_with fail;refine aX.mono ?_;clear aX;rintro e dC ⟨rfl,rfl⟩;have d2:∀E,Smp dd E↔Smp al E:=λE=>by constructor;rintro ⟨m,o,rfl⟩;obtain ⟨di,d6,e⟩:=zAy.1 (aC.subset o);exact ⟨di,d6,by rw [<-e]⟩;rintro ⟨m,o,rfl⟩;exact ⟨_,aC.symm.subset (zAy.2 ⟨m,o,rfl⟩),rfl⟩
 have aD:=qP ⟨c5,by rw [aN];exact c3,d5,λm o=>c9 m (aC.subset o),λE=>Iff.rfl,λdm e=>by
  subst e;have:=aC.length_eq;simp at this;exact ca (zBk this.symm),cv,⟨cV.1,by omega⟩⟩ oM oM (λm o=>by
  rcases zER o with ab | ab;exact bJ m ab
  .omega)
 rw [cf] at aD;unfold vH at aD;go_wp2_with fail;refine aD.mono ?_;clear aD;rintro e dD ⟨rfl,dc,d9,cx,cp,C⟩;have cu:=C;clear C;go_wp2_with fail;go_ret;have C:=cu;have a1:(t.set at_ y).length=N+1:=by rw [zAt,ae]
 have cj:Smp cp=Smp al:=funext λE=>propext ((C.ci E).trans (d2 E));refine ⟨rfl,dc,⟨gk,Z,d9,aK q i++ [b],cx,cp,?_,by rw [cj];exact b6,by rw [cj,a1];exact aW,C.bA.1,by rw [a1];have:=C.bA.2;omega⟩,C.lf⟩;rw [bI,a1];exact ⟨C.P.B,C.live,C.ag,C.right⟩
def aBH {B own gs gl aA rate} (N) {t k} (c n) {A m} (U) {w} (C:StAt w B own gs gl aA rate t) (Y:TabW w) (J:0 < B) (K:t.length=N) (X:ArgZ w B own gs A m k) (b1:c+m<=N):
 Calls prog 16 #[gs,.agg #[(3:Int),(c:Int),(n:Int),.slice A m U]] w (aHB w B own gs gl aA rate (t.take c++(k++t.drop (c+k.length)))):=by
 have E:k.length=m:=by simpa using X.1.1
 rw [E];have l:=EdW.mk' 3 (c:Int) n A m U C;have aH:=X.b l.low;have aK:=LFS.j B gs own l.low;have a3:=sD (B:=B) (own:=own) (gs:=gs) (gl:=gl) (aA:=aA) (rate:=rate) (N:=N) (t:=t) c m l.st K;have af:dK N (c:Int) (m:Int)=true:=zBz oM;rw [af] at a3;have I:=l.box.cell 0;have az:=l.box.cell 1;have aC:=l.box.cell 2;have W:=l.box.cell 3;have aN:=C.n127;have ai:=C.len;rw [K] at aN ai;have ab:=Y.below l.low Y.pos;have aw:=l.st;have a7:=l.ap;have a8:=l.box;clear C X l af Y;go_enter func16,ntmps16;go_wp2_with fail;refine a3.mono ?_;rintro e w1 ⟨rfl,rfl⟩;clear a3;go_wp2_with fail;generalize w.alloc (.cells #[(3:Int),(c:Int),(n:Int),.slice A m U] 32)=w1 at*
 clear I az aC W;refine wp_region_any kR<|aQ (S:=(VB B)) (V:=(Vs [is w.heap.size,is (.int .i64 3),is (.bool false),is (.bool false),is undef,is undef,is undef,is undef,is undef,is undef,is undef,is undef,is undef,is undef,is undef,is undef,is undef,is undef,is (.bool false),is (.bool false)])) [27,28,29,30,31,32,33,34,35,36,37,38,39,40,41,42,43,44,45,26] _ rfl kR vR (λ_ _=>VisK.trans) (dI tA0) ?_ ?_
 .refine aL<|pH 3 (.pointer (some w.heap.size))<|sC (λ_ u b _ _ _ d _ _ _ q=>?_) ?_
  .have aT:_=_:=d 0 27 kR rfl;replace b:(VB B) w1 u:=bD b;have a1:=b.1.d a8 dC dC;have a9:=a1.cell 0;go_simp;exact q _ _ vR rfl
  refine pV 1 28<|pV 2 29<|aD ?_ ?_;exact sK 30 false λ_=>vR;refine aD ?_ ?_;exact sK 30 false λ_=>vR;refine aD ?_ ?_;exact sK 30 false λ_=>vR;refine aD ?_ ?_;exact sK 30 false λ_=>vR;refine aD ?_ ?_;exact sK 30 false λ_=>vR;refine aD ?_ ?_;exact sK 30 false λ_=>vR;refine aD ?_ ?_;exact sK 30 false λ_=>vR;refine aD ?_ ?_;exact sK 30 false λ_=>vR;refine aD ?_ ?_;exact sK 30 false λ_=>vR;refine aD ?_ ?_;exact sK 30 false λ_=>vR;refine aD ?_ ?_;exact sK 30 false λ_=>vR;refine aD ?_ ?_;exact sK 30 false λ_=>vR;refine aD ?_ ?_;exact sK 30 false λ_=>vR;refine aD ?_ ?_;exact sK 30 false λ_=>vR;refine pW 3 30 17 44<|pV 18 45 ?_;exact aB
 .intro z v b d;replace b:(VB B) w1 v:=bD b;have aa:z (.tmp 26)=.bool false:=d 19 26 rfl;simp only [zqq];rw [aa];clear d;have ak:=aw.G b.1;have a5:=LFS.i gs own b;have a0:=b.1.d a8 dC dC;have I:=a0.cell 0;have W:=a0.cell 3;have av:=(aK.trans a5);have ar:=(aH.step a5);have au:=(ab.G b J ab.pos);clear a5 b aa;go_wp2_with fail;clear I W;go_loopw [6,7,65] (λ_ _ Q wr=>∃(a:Nat) (own':Nat->Nat),a<=m/\Q=.int .i64 a/\StAt wr B own' gs gl aA rate (t.take c++(k.take a++t.drop (c+a)))/\LFS B gs v wr own own') (λ_ _ Q _=>m -(intOf Q).toNat)
  case atStart=>exact ⟨0,own,by omega,rfl,by rw [zDN,zDH,zBq,zAu];exact ak,LFS.refl _ _ _ _⟩
  case round=>
   obtain ⟨a,own',b0,rfl,s,y⟩:=hrel;by_cases aM:a < m
   .obtain ⟨x,Z⟩:∃x,k[a]?=some x:=⟨_,zAa (by rw [E];exact aM)⟩;have aj:c+a < t.length:=(by rw [K];omega);have L:=aHJ t k (p:=c) (j:=a) (by rw [E];omega) oM;have a4:=aHJ t k (p:=c) (j:=a+1) (by rw [E];omega) oM;rw [K] at L a4;have M:=λu (am:VB B wr u)=>aMj (w:=u) (B:=B) (own:=own') (gl:=gl) (t:=(t.take c++(k.take a++t.drop (c+a)))) (rate:=rate) (c+a) x (s.G am.1).live ((au.below (y.below ak.size) J).G am J (zj s.size)) J (by rw [L];omega) (by rw [L];omega) s.r1 s.r2;unfold aD1 at M;rw [aKq (t:=t) (D:=k) Z aj] at M;obtain ⟨ay,aO,rfl,aZ,ae⟩:=((ar.step y).1).2 oM;have aS:wr.cell? ⟨ay,aO+a,none⟩=some (.int .u8 x.toNat):=ae a _ (by rw [zAf,Z];rfl);have ad:=y.d a0 a7.x a7.ne dC dC;have I:=ad.cell 0;have aE:IntKind.i64.wrap (c+a)=((c+a:Nat):Int):=zu;clear L Z ae aj;go_wp2_with fail;refine wp_region_any kR<|cC (pre:=(λ_=>True)) (pJ:=(λH _=>H=.pointer (some gl))) B 9 [73,74,75,76,77,78,79,80,81] (λ_=>False) 3 [] [is gs,is gs,is gs,cO,is (.pointer (some ⟨w.heap.size,1,none⟩)),is (c:Int),is (a:Int),is (.int .i64 (c+a:Nat)),is (.int .u8 x.toNat)] _ rfl dC kR kR kR (trivial) (λ_ _ _ _ _=>trivial) (λ_ _ _ C _=>C) tA0 ?_ ?_
    .refine bB<|pH3 0 (.pointer (some gs))<|pV3 0 73<|pV3 1 74<|sC3 (λ_ u b _ _ _ _ d _ _ _ q=>?_) ?_
     .replace b:VFB B (λ_=>False) wr u:=fD b;have aU:_=_:=d 2 75 kR rfl;have a6:=b.y (λ_ _ o=>o);have aJ:=a6.1.d s.a dC dC;have a9:=aJ.cell 0;go_simp;exact q _ _ (lC (VFB.i vR)) rfl
     refine pH3 3 (.pointer (some w.heap.size))<|sC3 (λ_ u b _ _ _ _ d _ _ _ q=>?_) ?_
     .replace b:VFB B (λ_=>False) wr u:=fD b;have aV:_=_:=d 4 77 kR rfl;have a6:=b.y (λ_ _ o=>o);have a1:=a6.1.d ad dC dC;have a9:=a1.cell 1;go_simp;exact q _ _ (aI vR) rfl
     refine pH3 6 (.int .i64 a)<|sC3 (λ_ _ _ _ _ _ _ d _ _ _ q=>?_) ?_
     .have aW:_=_:=d 5 78 kR rfl;have aX:_=_:=d 6 79 kR rfl;go_simp;exact q _ _ (aI vR) (by first | rfl | exact congrArg (Value.int .i64) aE)
     refine pH3 7 (.int .u8 x.toNat) ?_;exact aB
    .intro z v o b d ac;replace b:VFB B (λ_=>False) wr v:=fD b;have an:(λH _=>H=.pointer (some gl)) (z (.tmp 76)) v:=d 3 76 dC rfl;have aF:z (.tmp 80)=.int .i64 (c+a:Nat):=d 7 80 dC rfl;have aG:z (.tmp 81)=.int .u8 x.toNat:=d 8 81 dC rfl;obtain ⟨aR,aq⟩:=ac 3 dC;have ao:(λH _=>H=.pointer (some gl)) aR v:=aq;clear aq ac;simp only [zqq];rw [aF];rw [aG];clear d;have O:=b.y (λ_ _ o=>o);rw [show z (.tmp 76)=_ from an];clear ao b an;change wpAny prog Region.Mode.any _ _ (1+o) (bT 9 10) _ v;rw [zCt 1 o];refine aY (f:=o) (i:=9) kR ?_;refine bJ rfl rfl ?_;generalize q:wpAny prog _ _ _ o _=K5;go_simp;refine (M v O).mono ?_;rintro e b2 ⟨rfl,aP,ag,ah⟩;subst q;refine bG kR ?_;have a2:=(s.G O.1).bl ag ah (by rw [a4];omega) (by rw [a4];have:=ai;omega);have ax:=a2.1;have T:=(y.trans ((LFS.i gs own' O).trans a2.2));clear a2 ag ah O s y M;go_wp2_with fail;go_roundw
     case rel=>exact ⟨a+1,aP,by omega,by go_num,ax,T⟩
     case measure=>exact zr
   .obtain rfl:a=m:=oM;have al:k.take a=k:=zAg (by rw [E];exact zAs _);rw [al] at s;clear al;have T:=(av.trans y);clear y;go_wp2_with fail;go_ret;exact ⟨rfl,own',s,T⟩
structure Sp where
 kind:Int
 p:Int
 k:Int
 D:List UInt8
section
def DataAt (w:World) (f:Nat) (e:Option Addr) (a b:Nat) (D:List UInt8):Prop:=
 D.length=a/\a<=b/\b<=maxLen/\((e=none/\a=0/\b=0)∨∃d c,e=some ⟨d,0,none⟩/\f<=d/\Bk w d 5 c/\a<=c.size/\c.toList.take a=D.map bv)
def DataAt.rd {w f b e g D} (j:DataAt w f b e g D):Rd w w.heap.size 1 b e (D.map bv):=by
 obtain ⟨c,n,o,⟨rfl,rfl,rfl⟩|⟨i,m,rfl,q,d,r,ht⟩⟩:=j;obtain rfl:D= []:=zBk c;exact Rd.nil _ _ _ _
 .refine ⟨by simp [c],λ_=>⟨i,0,rfl,d.lt,λs t a=>?_⟩⟩;rw [zBi,d.cell];rw [<-ht,zBs] at a;split at a;simpa using a
  .cases a
def DataAt.s {w d c a e D} (f:w.ownsRow d 5 1 (.slice c a e) a (D.map bv)):DataAt w d c a e D:=by
 have i:D.length=a:=by simpa using f.1
 rcases f.2 with ⟨b,g⟩|⟨m,s,j,b,g,n,o,q,t,r⟩;cases b;exact ⟨i,zAs _,zAp _,.inl ⟨rfl,rfl,rfl⟩⟩;cases b;exact ⟨i,o,q,.inr ⟨m,j,rfl,g,n,by omega,by simpa using r⟩⟩
def DataAt.keep {w w' c d m e D} (n:DataAt w c d m e D) (k:∀a b,c<=a->Bk w a 5 b->Bk w' a 5 b):DataAt w' c d m e D:=by
 obtain ⟨f,g,i,o |⟨a,b,rfl,j,q,r,ht⟩⟩:=n;exact ⟨f,g,i,.inl o⟩;exact ⟨f,g,i,.inr ⟨a,b,rfl,j,k a b j q,r,ht⟩⟩
def DataAt.below {w e B a d b D} (f:DataAt w B a d b D) (k:Below w.heap.size w e):DataAt e B a d b D:=f.keep λi g _ c=>c.below k c.lt
def DataAt.mono {w B B' a f b D} (j:DataAt w B a f b D) (k:B'<=B):DataAt w B' a f b D:=by
 obtain ⟨c,d,e,m |⟨i,g,rfl,q,n,o,ht⟩⟩:=j;exact ⟨c,d,e,.inl m⟩;exact ⟨c,d,e,.inr ⟨i,g,rfl,by omega,n,o,ht⟩⟩
def StpsAt (w:World) (b:Nat):List Value->List Sp->Prop
 | xs, []=>xs= []
 | xs,s::L=>∃a d c e,xs=.int .i64 s.kind::.int .i64 s.p::.int .i64 s.k::.slice a d c::e/\DataAt w b a d c s.D/\StpsAt w b e L
def StpsAt.keep {w w':World} {a:Nat} (k:∀b g,a<=b->Bk w b 5 g->Bk w' b 5 g):∀ {f:List Sp} {i:List Value},StpsAt w a i f->StpsAt w' a i f
 | [],_,d=>d
 | _::_,_,⟨A,n,c,ys,e,hd,d⟩=>⟨A,n,c,ys,e,hd.keep k,StpsAt.keep k d⟩
def StpsAt.below {w c B a d} (e:StpsAt w B d a) (k:Below w.heap.size w c):StpsAt c B d a:=e.keep λg f _ b=>b.below k b.lt
def StpsAt.grown {w e b g q o d r c f} (j:StpsAt w b f c) (n:w.ownsRow g 32 q d o r) (m:w.grownBy e d.ownBlock):StpsAt e b f c:=
 j.keep λi s _ a=>(m.block i a.lt (bC n a dC)).trans a
def DataAt.grown {w g c i r q e d f s b D} (m:DataAt w c b e d D) (o:w.ownsRow i 32 r f q s) (n:w.grownBy g f.ownBlock):DataAt g c b e d D:=
 m.keep λj t _ a=>(n.block j a.lt (bC o a dC)).trans a
def DataAt.o {c w g a f e b D} (m:DataAt w a b f e D) (k:Keep c w g) (n:∀d,c d->d < a):DataAt g a b f e D:=
 m.keep λj q r o=>k.d o (λi=>by have:=n j i;omega)
def aKs {w b d e a} (c:Bk w b e a) (f:a.size=d):Rd w w.heap.size d (some ⟨b,0,none⟩) 1 a.toList:=by
 refine ⟨by simp [f],λ_=>⟨b,0,rfl,c.lt,λi j g=>?_⟩⟩;rw [zBi,c.cell i];rw [<-g];simp
def wM (l:List UInt8) (a b:Nat):(⟨l.toArray⟩:ByteArray).extract a b=⟨((l.drop a).take (b - a)).toArray⟩:=by
 apply zGo;rw [ByteArray.data_extract];apply zFs;rw [Array.toList_extract]
def bZ (l:List UInt8):(⟨l.toArray⟩:ByteArray).size=l.length:=by simp [ByteArray.size]
section
variable (l : List UInt8) (w : World)
def pX (a b) (c:a<=b) (d:b<=l.length):(Instr.slice 9 (.string ⟨l.toArray⟩) (some (.int .i64 a)) (some (.int .i64 b)) none).run prog w=.ok (.string ⟨((l.drop a).take (b - a)).toArray⟩) w:=by
 rw [run_slice_string (P:=prog) (w:=w) 9 ⟨l.toArray⟩ .i64 .i64 a b underlying9 oM oM (by rw [bZ];omega)];rw [zBr,zBr,wM]
def aCM (a) (b:a<=l.length):(Instr.slice 9 (.string ⟨l.toArray⟩) none (some (.int .i64 a)) none).run prog w=.ok (.string ⟨(l.take a).toArray⟩) w:=by
 rw [run_slice_string_h (P:=prog) (w:=w) 9 ⟨l.toArray⟩ underlying9 .i64 a oM (by rw [bZ];omega)];rw [zBr,wM];simp
def aCL (a) (b:a<=l.length):(Instr.slice 9 (.string ⟨l.toArray⟩) (some (.int .i64 a)) none none).run prog w=.ok (.string ⟨(l.drop a).toArray⟩) w:=by
 rw [run_slice_string_l (P:=prog) (w:=w) 9 ⟨l.toArray⟩ underlying9 .i64 a oM (by rw [bZ];omega)];rw [zBr,wM,bZ];congr 3;apply congrArg;rw [zAg (by rw [zAw];omega)]
def aAo (a b) (c:a<=b) (d:b<=l.length):(Instr.sliceAt 9 (.string ⟨l.toArray⟩) (some (.int .i64 a)) (some (.int .i64 b)) none).run prog w=.ok (.string ⟨((l.drop a).take (b - a)).toArray⟩) w:=by
 rw [run_sliceAt_string (h:=underlying9),pX l w a b c d]
def aL5 (a) (b:a<=l.length):(Instr.sliceAt 9 (.string ⟨l.toArray⟩) none (some (.int .i64 a)) none).run prog w=.ok (.string ⟨(l.take a).toArray⟩) w:=by
 rw [run_sliceAt_string (h:=underlying9),aCM l w a b]
def aL4 (a) (b:a<=l.length):(Instr.sliceAt 9 (.string ⟨l.toArray⟩) (some (.int .i64 a)) none none).run prog w=.ok (.string ⟨(l.drop a).toArray⟩) w:=by
 rw [run_sliceAt_string (h:=underlying9),aCL l w a b]
end
def aGB (c a:List UInt8):(c.take a.length==a)=a.isPrefixOf c:=by
 rw [zEd];simp only [zCr,zEn];constructor;intro b;rw [<-b];exact List.take_prefix _ _;intro b;exact (List.prefix_iff_eq_take.1 b).symm
def sM {b p:List UInt8} {a c e d:Nat} (w:World) (i:b.length=e) (g:p.length=d) (q:a+d=c) (n:c<=e) (o:e<=1099511627776):
 Calls prog 59 #[.string ⟨b.toArray⟩,(a:Int),.string ⟨p.toArray⟩] w λj m=>j=.returned (.bool (p.isPrefixOf (b.drop a)))/\w=m:=by
 have u:(⟨b.toArray⟩:ByteArray).size=e:=(bZ b).trans i;have v:(⟨p.toArray⟩:ByteArray).size=d:=(bZ p).trans g;have s:=λw=>pX b w a c oM oM;have t:=λw=>aAo b w a c oM oM;have r:(a:Int)+d=c:=oM;have f:((b.drop a).take (c - a)==p)=p.isPrefixOf (b.drop a):=by rw [<-aGB,g,show c - a=d by omega]
 clear i;go_enter func59,ntmps59;go_wp2;go_ret;exact ⟨bH (by first | exact f |(simp [<-f])),rfl⟩
def aBf {t p n m L N} (w) (f:t.length=n) (b:p.length=m) (s:dY t p=L) (A:L.length=N) (X:n<=549755813888) (V:m<=549755813888):
 Calls prog 23 #[.string ⟨t.toArray⟩,.string ⟨p.toArray⟩] w λj i=>∃c d,j=.returned (.slice c N d)/\Made i w.heap.size 3 1 c N d (L.map nv)/\Below w.heap.size w i:=by
 obtain ⟨P,G,K,M,O⟩:=info_parts xX;have a2:(⟨t.toArray⟩:ByteArray).size=n:=(bZ t).trans f;have a3:(⟨p.toArray⟩:ByteArray).size=m:=(bZ p).trans b;have F:∀k:Nat,k<=n+1 - m->¬(k+m<=n)->fY t p k=L:=λk S U=>by rw [<-s,dY,f,b];congr 1;omega
 have r:=b;clear s b;go_enter func23,ntmps23;go_wp2;go_loopw [5,6] (λR q wr=>∃k:Nat,k<=n+1 - m/\q=.int .i64 k/\wr.ownsRow w.heap.size 3 1 R (fY t p k).length ((fY t p k).map nv)/\Below w.heap.size w wr) (λ_ q _=>n+1 -(intOf q).toNat)
 case atStart=>exact ⟨0,zAp _,rfl,ki _ _ _ _,kg _ _⟩
 case round=>
  obtain ⟨k,H,rfl,a,e⟩:=hrel;have y:=e.size;by_cases I:k+m<=n
  .have v:=wR t p k;have E:=zy ((k:Int)+m<=n);obtain ⟨Z,x⟩:=eqx (k+m);cases g:p.isPrefixOf (t.drop k) with
   | true=>
    have o:=aAA g;obtain ⟨Q,z⟩:=eqx ((fY t p k).length);rw [z] at v a;go_wp2_with fail;refine (sM _ f r x oM oM).mono ?_;rintro j i ⟨rfl,rfl⟩;rw [g];go_wp2_with (at_builtin;refine bP _ rfl (.tmp 20) (.tmp 22) _ rfl w.heap.size 3 P (.int .i64 0) 1 8 underlying27 G K M O rfl dC _ Q _ rfl a rfl rfl (by simp [Value.oneCell']) zx oM y ?_;intro a0 a1 J u Y B);have C:=aX e a u y;clear u B;go_roundw
    case rel=>refine ⟨k+1,by omega,by go_num,?_,C⟩;rw [o,zAi,z,zAz];exact J
    case measure=>exact zr
   | false=>
    have o:=wQ t p k g;clear v;go_wp2_with fail;refine (sM _ f r x oM oM).mono ?_;rintro j i ⟨rfl,rfl⟩;rw [g];go_wp2;go_roundw
    case rel=>refine ⟨k+1,by omega,by go_num,?_,e⟩;rw [o];exact a
    case measure=>exact zr
  .have E:=zn ((k:Int)+m<=n);rw [F k H I,A] at a;obtain ⟨c,d,rfl,b⟩:=aR a;clear a;go_wp2;go_ret;exact ⟨c,d,rfl,b,e⟩
def aAn {y z:Option Addr} {a:Nat} (G:Nat) {e:Nat} (H:Nat) {E F:Nat} {b c:List Nat} {w:World} (A:Rd w E 1 y a (b.map nv)) (B:Rd w F 1 z e (c.map nv)) (S:a<=1099511627776) (U:e<=1099511627776):
 Calls prog 22 #[.slice y a G,.slice z e H] w λK O=>K=.returned (.bool (decide (b=c)))/\Below w.heap.size w O:=by
 have g:b.length=a:=by simpa using A.1
 have i:c.length=e:=by simpa using B.1
 by_cases m:a=e
 .subst m;go_enter func22,ntmps22;go_wp2;go_loopw [5] (λu wr=>∃k:Nat,k<=a/\u=.int .i64 k/\b.take k=c.take k/\∃M,wr=w.drewN M) (λu _=>a -(intOf u).toNat)
  case atStart=>exact ⟨0,zAp _,rfl,rfl,0,rfl⟩
  case round=>
   obtain ⟨k,R,rfl,n,V,rfl⟩:=hrel;by_cases C:k < a
   .obtain ⟨v,r⟩:∃v,b[k]?=some v:=⟨b[k]'(zj g),zAa (zj g)⟩;obtain ⟨x,t⟩:∃x,c[k]?=some x:=⟨c[k]'(zj i),zAa (zj i)⟩;obtain ⟨b1,X,Z,rfl,P,o,I⟩:=A.get C;obtain ⟨b2,Y,a0,rfl,Q,q,J⟩:=B.get C;rw [zAf,r] at o;rw [zAf,t] at q;simp only [zEq,zEB] at o q;subst o;subst q;unfold nv iv at I J;by_cases s:v=x
    .subst s;go_wp2;go_quiet (fail);go_wp2;go_roundw
     case rel=>refine ⟨k+1,by omega,by go_num,?_,_,rfl⟩;rw [zAv,zAv,n,r,t]
     case measure=>exact zr
    .have N:=rK s
     have d:b≠c:=λj=>s (by
      have f:=r;rw [j,t] at f;injection f with f;exact f.symm)
     go_wp2;go_quiet (fail);go_wp2;go_ret;exact ⟨bH (by rw [zBy d]),km (km bR _) _⟩
   .have L:a<=k:=oM;have d:=(xW g i n L);clear n;go_wp2;go_ret;exact ⟨bH (by rw [zBz d]),km bR _⟩
 .have d:b≠c:=λj=>m (by rw [<-g,<-i,j]);have N:=rK m;go_enter func22,ntmps22;go_wp2;go_ret;exact ⟨bH (by rw [zBy d]),kg _ _⟩
def yH (f g i j:Int) {A1 A2 A3 A4:Option Addr} {n1:Nat} (K:Nat) {n2:Nat} (L:Nat) {n3:Nat} (M:Nat) {n4:Nat} (N:Nat) {q r s t:Nat} {X1 X2:List UInt8} {L1 L2:List Nat} {w:World} (A:Rd w q 1 A1 n1 (X1.map bv)) (B:Rd w r 1 A2 n2 (X2.map bv)) (C:Rd w s 1 A3 n3 (L1.map nv)) (E:Rd w t 1 A4 n4 (L2.map nv)) (b1:q<=w.heap.size) (b2:r<=w.heap.size) (x:s<=w.heap.size) (y:t<=w.heap.size) (O:n3<=1099511627776) (P:n4<=1099511627776):
 Calls prog 8 #[.agg #[(f:Int),(i:Int),.slice A1 n1 K,.slice A3 n3 M],.agg #[(g:Int),(j:Int),.slice A2 n2 L,.slice A4 n4 N]] w λz H=>z=.returned (.bool (decide (f=g/\i=j/\X1=X2/\L1=L2)))/\Below w.heap.size w H:=by
 have a:∀b c,Below w.heap.size w ((w.alloc b).alloc c):=λb c=>((kg w.heap.size w).alloc nL b).alloc zs c;have u:=(A.mono b1);have v:=(B.mono b2);have I:=(C.mono x);have J:=(E.mono y);clear A B C E b1 b2 x y;by_cases d:f=g
 .by_cases e:i=j
  .by_cases n:X1=X2
   .have o:(f==g)=true:=(by rw [zCr];exact d);have G:(i==j)=true:=(by rw [zCr];exact e);have m:=(And.intro d (And.intro e n));clear d e n;go_enter func8,ntmps8;have Q:=λb c=>fR (u.below (a b c));have R:=λb c=>fR (v.below (a b c));have S:(X1==X2)=true:=(by rw [zCr];exact m.2.2);go_wp2_with fail;refine (aAn _ _ (I.below (a _ _)) (J.below (a _ _)) O P).mono ?_;rintro z H ⟨rfl,F⟩;have hB:=(a _ _).trans (F.mono (a _ _).size);clear F;go_wp2_with fail;go_ret;exact ⟨bH (by simp [m.1,m.2.1,m.2.2]),hB⟩
   .have o:(f==g)=true:=(by rw [zCr];exact d);have G:(i==j)=true:=(by rw [zCr];exact e);clear d e;go_enter func8,ntmps8;have Q:=λb c=>fR (u.below (a b c));have R:=λb c=>fR (v.below (a b c));have S:(X1==X2)=false:=(by rw [zCb];exact n);go_wp2_with fail;go_ret;exact ⟨bH (by simp [n]),a _ _⟩
  .have o:(f==g)=true:=(by rw [zCr];exact d);have G:(i==j)=false:=(by rw [zCb];exact e);clear d;go_enter func8,ntmps8;go_wp2_with fail;go_ret;exact ⟨bH (by simp [e]),a _ _⟩
 .have o:(f==g)=false:=(by rw [zCb];exact d);go_enter func8,ntmps8;go_wp2_with fail;go_ret;exact ⟨bH (by simp [d]),a _ _⟩
def jV (a b:List UInt8):Value.string ((⟨a.toArray⟩:ByteArray)++⟨b.toArray⟩)=.string ⟨(a++b).toArray⟩:=congrArg Value.string (by
 apply zGo;rw [zGa];simp)
def RdN.ca {w d g f j b c i} (e:Made w d b g c f j i) (q:b=5∨b=3):RdN w d g c f i:=⟨e.rd,λx r n=>by
 subst n;rcases e.own.2 with ⟨y,v⟩|⟨u,s,t,a,m,o,_⟩;omega
 .injection a with a;injection a with a;subst a;exact ⟨m,_,_,_,o,q⟩⟩
def aLa (d e b:Nat) (g:List Value):Value->World->Prop:=λf w=>∃a c,f=.slice a b c/\RdN w d e a b g
def aEn {a c} (i:∀b,a b->b < c) (m j n):tO a (aLa c m j n):=λ_ _ _ ⟨d,e,f,g⟩ k=>⟨d,e,f,g.o k i⟩
def aOR (d:Nat) (a:List UInt8):Value->World->Prop:=λe w=>∃b c,e=.agg (iD ⟨0,0,a, []⟩ b c none 0)/\RdN w d 1 b a.length (a.map bv)
def aIu {a c} (j:∀b,a b->b < c) (e):tO a (aOR c e):=λ_ _ _ ⟨d,f,g,i⟩ k=>⟨d,f,g,i.o k j⟩
def aL8 (e d:Nat) (a:List UInt8):Value->World->Prop:=λ_ w=>∃b c,Bk w e 29 (iD ⟨0,0,a, []⟩ b c none 0)/\RdN w d 1 b a.length (a.map bv)
def aJx (g f c):Stb (aL8 g f c):=λ_ _ _ ⟨b,d,a,e⟩ k=>⟨b,d,kf a k a.lt,e.below k⟩
def aKJ (w:World) (l:List UInt8) (c:Nat) {a:TypeId} (d:Nat×Nat) (i e:Nat) (q:l.length=i) (o:e=w.heap.size) (n:a=5∨a=3):RdN (w.drew.alloc (.cells (bytesRow ⟨l.toArray⟩ c) a d)) e 1 (some ⟨e,0,none⟩) i (l.map bv):=by
 subst o;refine ⟨⟨by simp [q],λ_=>⟨_,0,rfl,by simp,λg s b=>?_⟩⟩,λ_ r m=>by cases m;exact ⟨zAs _,_,_,_,heap_alloc_new w.drew _,n⟩⟩;have j:=cell_of_row (w.drew.alloc (.cells (bytesRow ⟨l.toArray⟩ c) a d)) w.heap.size g (bytesRow ⟨l.toArray⟩ c) a d (heap_alloc_new w.drew _);rw [zBi,j];unfold bytesRow;have f:g < l.length:=by have:=(zAc.1 b).1;simpa using this
 rw [Array.getElem?_append_left (by simpa using f)];rw [zAf,zAa f] at b;simp only [zEq,zEB] at b;rw [<-b];simp [f,bv]
def fP (gx:Nat) (aA:Int) (f:List UInt8) (a:Told) (w b:World) (j:Ending):Prop:=
 ∃c i d e,j=.returned (.agg (iD a c i d e))/\Keep (λg=>g=gx) w b/\RdN b w.heap.size 1 c a.data.length (a.data.map bv)/\Made b w.heap.size 3 1 d a.places.length e (a.places.map nv)/\Bk b gx 35 #[.string ⟨f.toArray⟩,(aA:Int)]
def kP {gx aA d b w a c s A1 c1 A2 c2} (o:c.getD 4 undef=.pointer (some s)) (i:Bk a s 29 (iD b A1 c1 A2 c2)) (j:Keep (λe=>e=gx) w a) (m:RdN a w.heap.size 1 A1 b.data.length (b.data.map bv)) (n:Made a w.heap.size 3 1 A2 b.places.length c2 (b.places.map nv)) (q:Bk a gx 35 #[.string ⟨d.toArray⟩,(aA:Int)]):
 bodyPost prog f9 (λg a=>fP gx aA d b w a g) .ret ⟨c, []⟩ a:=by
 have r:=results_cell_row (P:=prog) (fn:=f9) (p:=4) (ty:=29) rfl c a s 29 (iD b A1 c1 A2 c2) (0,0) _ o i underlying29 rfl kR;exact bodyPost_ret r rfl ⟨A1,c1,A2,c2,rfl,j,m,n,q⟩
section
variable {w W W' : World} {gx nd cd : Nat} {AD : Option Addr} {T D : List UInt8} {aA kind p k : Int}
def zE (w kind p k AD nd cd a):Below w.heap.size w ((w.alloc (.cells #[(kind:Int),(p:Int),(k:Int),.slice AD nd cd] 32)).alloc (.cells a 29)):=
 ((kg w.heap.size w).alloc nL _).alloc (by simp) _
def aCX (w:World) (kind p k:Int) (AD:Option Addr) (nd cd:Nat) (a:Array Value):Bk ((w.alloc (.cells #[(kind:Int),(p:Int),(k:Int),.slice AD nd cd] 32)).alloc (.cells a 29)) (w.heap.size+1) 29 a:=by
 simpa using kd (w.alloc (.cells #[(kind:Int),(p:Int),(k:Int),.slice AD nd cd] 32)) 29 a
def iI {a} (b:Bk w gx 35 #[.string ⟨T.toArray⟩,(aA:Int)]) (c:Rd w a 1 AD nd (D.map bv)) (hB:a<=w.heap.size):
 RefF w ((w.alloc (.cells #[(kind:Int),(p:Int),(k:Int),.slice AD nd cd] 32)).alloc (.cells #[o0,o0,(),()] 29)) gx nd cd AD T D aA kind p k:=
 ⟨zE _ _ _ _ _ _ _ _,(kd _ _ _).alloc _,aCX _ _ _ _ _ _ _ _,(b.alloc _).alloc _,(c.mono hB).below (zE _ _ _ _ _ _ _ _),b.lt⟩
end
def aNd {a p k} (b:dK a p k=false):p < 0∨(0<=p/\k < 0)∨(0<=p/\0<=k/\(a:Int) < p)∨(0<=p/\0<=k/\p<=(a:Int)/\(a:Int) - p < k):=by
 unfold dK at b;have:=of_decide_eq_false b;omega
def tQ {gx:Nat} {AD} {nd:Nat} (cd:Nat) {kind p k:Int} {aA:Int} {T} {b:Nat} (i:T.length=b) {w} (e:Bk w gx 35 #[.string ⟨T.toArray⟩,(aA:Int)]) (t:b<=549755813888) (s:nd<=549755813888) (x:-9223372036854775808<=(p:Int)/\(p:Int)<=9223372036854775807) (o:-9223372036854775808<=(k:Int)/\(k:Int)<=9223372036854775807) {c d k':Int} (a:(((kind=1/\k'=0)∨(kind=2/\k'=k)∨(kind=5/\k'=k)∨(kind=3/\k'=(nd:Int)))/\dK b p k'=false/\c=2/\d=0)∨(kind=4/\c=0/\d=(b:Int))∨(kind=8/\c=0/\d=0)):
 Calls prog 9 #[gx,bK kind p k AD nd cd] w λj q=>fP gx aA (T) ⟨c,d, [], []⟩ w q j:=by
 have u:=e.lt;have z:(⟨T.toArray⟩:ByteArray).size=b:=(bZ T).trans i;have y:w.cell? gx=some (.string ⟨T.toArray⟩):=(e.cell 0).trans rfl;clear i;have v:=o;unfold bK;rcases a with ⟨n,g,rfl,rfl⟩|⟨rfl,rfl,rfl⟩|⟨rfl,rfl,rfl⟩;rcases aNd g with a |⟨a,f⟩|⟨a,f,m⟩|⟨a,f,m,r⟩<;> clear g <;> rcases n with ⟨rfl,rfl⟩|⟨rfl,rfl⟩|⟨rfl,rfl⟩|⟨rfl,rfl⟩
 all_goals first
  |(exfalso;omega)
  |(go_enter func9,ntmps9
    go_wp2;exact kP (A1:=none) (c1:=0) (A2:=none) (c2:=0) rfl (aCX w _ p _ AD nd cd _) (kF (zE _ _ _ _ _ _ _ _)) (RdN.nil _ _ _ _) (aV _ _ _) ((e.alloc _).alloc _))
def aBc {gx:Nat} {AD:Option Addr} {nd:Nat} (cd:Nat) {y:Nat} {p k:Nat} {aA:Int} {T D:List UInt8} {q:Nat} (o:T.length=q) {w:World} (j:Bk w gx 35 #[.string ⟨T.toArray⟩,(aA:Int)]) (x:Rd w y 1 AD nd (D.map bv)) (hB:y<=w.heap.size) (ah:0 < nd->∀z,AD=some z->z.block≠gx) (ag:q<=549755813888) (ae:nd<=549755813888) (am:-9223372036854775808<=(p:Int)/\(p:Int)<=9223372036854775807) (ak:-9223372036854775808<=(k:Int)/\(k:Int)<=9223372036854775807) (al:0<=aA/\aA<=2147483648) (ad:p+k<=q):
 Calls prog 9 #[gx,bK 2 p k AD nd cd] w λH M=>fP gx aA (T.take p++([]++T.drop (p+k))) ⟨0,0, [], []⟩ w M H:=by
 have af:D.length=nd:=by simpa using x.1
 have b:=iI (kind:=2) (p:=p) (k:=k) (cd:=cd) j x hB;have v:=b;have N:=j;have ai:=j.lt;have aw:(⟨T.toArray⟩:ByteArray).size=q:=(bZ T).trans o;have av:w.cell? gx=some (.string ⟨T.toArray⟩):=(j.cell 0).trans rfl;clear x j b;obtain ⟨t,J⟩:=eqx (p+k);obtain ⟨u,A⟩:=eqx ((T.take p++ [])++T.drop t);have B:T.take p++([]++T.drop (p+k))=u:=by rw [J,<-zCo];exact A
 rw [B];clear B;have O:=λw=>aL5 T w p (zj o);have P:=λw=>aL4 T w t (zj o);have b1:=λw=>aCM T w p (zj o);have b2:=λw=>aCL T w t (zj o);have U:¬((p:Int) < 0):=oM;have V:¬((p:Int) > q):=oM;have X:¬((k:Int) > q -p):=oM;have Y:¬((k:Int) < 0):=oM;unfold bK;go_enter func9,ntmps9;go_wp2;obtain ⟨W,C⟩:=eqx ((w.alloc (.cells #[(2:Int),(p:Int),(k:Int),.slice AD nd cd] 32)).alloc (.cells #[o0,o0,(),()] 29));rw [C] at v⊢;have b:=v;clear C v;refine wp_region_any kR<|bM (pJ:=(λ_ w1=>Bk w1 gx 35 #[.string ⟨u.toArray⟩,(aA:Int)])) [104,105,106,107,108,109,110,111,112,113,114,115,116,117,118,119,120,121,122,123,124] (λf=>f=gx) 21 [4,11,21] [is gx,is gx,is gx,is gx,is (.string ⟨T.toArray⟩),is (.pointer (some ⟨w.heap.size,1,none⟩)),is (p:Int),is (.string ⟨(T.take p).toArray⟩),is gx,is gx,is gx,is (.string ⟨T.toArray⟩),is (.pointer (some ⟨w.heap.size,1,none⟩)),is (p:Int),is (.pointer (some ⟨w.heap.size,2,none⟩)),is (k:Int),is (t:Int),is (.string ⟨(T.drop t).toArray⟩),is (.string ⟨u.toArray⟩),is gx,is gx,cO] _ rfl kR kR (b.mod) (λw1 au c _ j=>kf c j c.lt) (λ_ _ _ c k=>kf c k c.lt) tA1 ?_ ?_
 .refine aL<|pH3 0 (.pointer (some gx))<|pH3 0 (.pointer (some gx))<|pV3 1 105<|pV3 2 106<|sC3 (λ_ e _ r _ _ _ d _ _ _ g=>?_) ?_
  .have m:=r rfl;have Z:_=_:=d 3 107 kR rfl;have Q:e.cell? gx=some (.string ⟨T.toArray⟩):=(m.cell 0).trans rfl;go_simp;exact kq g rfl
  refine pH3 3 (.pointer (some w.heap.size))<|pL3 5 109 (λe a=>have a:Keep (λf=>f=gx) W e:=kD a;(((a.d b.step (λc=>absurd (show w.heap.size=gx from c) (zj b.ae))).cell 1).trans rfl:e.cell? ⟨w.heap.size,1,none⟩=some (.int .i64 p))) ?_;refine pW3 4 108 6 110<|pH3 0 (.pointer (some gx))<|pV3 8 112<|pV3 9 113<|sC3 (λ_ e _ r _ _ _ d _ _ _ g=>?_) ?_
  .have m:=r rfl;have a1:_=_:=d 10 114 kR rfl;have R:e.cell? gx=some (.string ⟨T.toArray⟩):=(m.cell 0).trans rfl;go_simp;exact kq g rfl
  refine pH3 3 (.pointer (some w.heap.size))<|pL3 12 116 (λe a=>have a:Keep (λf=>f=gx) W e:=kD a;(((a.d b.step (λc=>absurd (show w.heap.size=gx from c) (zj b.ae))).cell 1).trans rfl:e.cell? ⟨w.heap.size,1,none⟩=some (.int .i64 p))) ?_;refine pH3 3 (.pointer (some w.heap.size))<|pL3 14 118 (λe a=>have a:Keep (λf=>f=gx) W e:=kD a;(((a.d b.step (λc=>absurd (show w.heap.size=gx from c) (zj b.ae))).cell 2).trans rfl:e.cell? ⟨w.heap.size,2,none⟩=some (.int .i64 k))) ?_;refine sC3 (λ_ _ _ _ _ _ _ d _ _ _ g=>?_) ?_
  .have a2:_=_:=d 13 117 kR rfl;have a3:_=_:=d 15 119 kR rfl;go_simp;exact g _ _ (aE bR) (cS zu)
  refine pW3 11 115 16 120<|sC3 (λ_ _ _ _ _ _ _ d _ _ _ g=>?_) ?_
  .have a0:_=_:=d 7 111 kR rfl;have a4:_=_:=d 17 121 kR rfl;go_simp;rw [zBw (by have:=o;simp;omega)];exact g _ _ (aE bR) ((jV _ _).trans (by rw [<-A,zEa]))
  refine pV3 0 104<|pV3 19 123<|sC3 (λ_ e _ r _ _ _ d _ _ _ g=>?_) ?_
  .have m:=r rfl;have a6:_=_:=d 20 124 kR rfl;have a5:_=_:=d 18 122 kR rfl;have ab:=m.frozen 0;have S:e.cell? gx=some (.string ⟨T.toArray⟩):=(m.cell 0).trans rfl;go_simp;exact g (.bool true) _ (aW (ka (F:=λf=>f=gx) (ke _ _) (p:=gx) (.inl rfl) _)) (m.set 0 _)
  exact aB
 .intro a7 n a d E;replace a:Keep (λf=>f=gx) W n:=kD a;obtain ⟨ar,G⟩:∃L,(λ_ w1=>Bk w1 gx 35 #[.string ⟨u.toArray⟩,(aA:Int)]) L n:=E 21 dC;simp only [zqq];clear d E;have aj:=b.ae;have i:=a.d b.wQ (λc=>absurd (show w.heap.size+1=gx from c) oM);have an:n.cell? ⟨w.heap.size+1,0,none⟩=some (.int .i64 0):=(i.cell 0).trans rfl;have a8:=i.frozen 0;have ao:n.cell? ⟨w.heap.size+1,1,none⟩=some (.int .i64 0):=(i.cell 1).trans rfl;have a9:=i.frozen 1;have ap:n.cell? ⟨w.heap.size+1,2,none⟩=some (.slice none 0 0):=(i.cell 2).trans rfl;have aa:=i.frozen 2;have aq:n.cell? ⟨w.heap.size+1,3,none⟩=some (.slice none 0 0):=(i.cell 3).trans rfl;have ac:=i.frozen 3;go_wp2;have I:=nB (v0:=.int .i64 0) (v1:=.int .i64 0) (v2:=.slice none 0 0) (v3:=.slice none 0 0) (zDT w.heap.size) ((kF b.low).trans a);have K:=iY (W:=n) (s:=w.heap.size+1) (v0:=.int .i64 0) (v1:=.int .i64 0) (v2:=.slice none 0 0) (v3:=.slice none 0 0);exact kP (s:=w.heap.size+1) (A1:=none) (c1:=0) (A2:=none) (c2:=0) rfl (eP i) I (RdN.nil _ _ _ _) (aV _ _ _) (K.d G (λc=>absurd (show gx=w.heap.size+1 from c) (zj b.ae)))
def yJ {gx:Nat} {AD:Option Addr} {nd:Nat} (cd:Nat) {B:Nat} {p k:Nat} {aA:Int} {T D:List UInt8} {o:Nat} (z:T.length=o) {w:World} (m:Bk w gx 35 #[.string ⟨T.toArray⟩,(aA:Int)]) (y:Rd w B 1 AD nd (D.map bv)) (hB:B<=w.heap.size) (I:0 < nd->∀C,AD=some C->C.block≠gx) (an:o<=549755813888) (al:nd<=549755813888) (aq:-9223372036854775808<=(p:Int)/\(p:Int)<=9223372036854775807) (ao:-9223372036854775808<=(k:Int)/\(k:Int)<=9223372036854775807) (ap:0<=aA/\aA<=2147483648) (ak:p+k<=o):
 Calls prog 9 #[gx,bK 5 p k AD nd cd] w λM a0=>fP gx aA (T) ⟨0,0,(T.drop p).take k, []⟩ w a0 M:=by
 have am:D.length=nd:=by simpa using y.1
 have f:=iI (kind:=5) (p:=p) (k:=k) (cd:=cd) m y hB;obtain ⟨v,L,Hn,a2⟩:=hqq4 f m z I;have R:=m.lt;have aD:(⟨T.toArray⟩:ByteArray).size=o:=(bZ T).trans z;have aC:w.cell? gx=some (.string ⟨T.toArray⟩):=(m.cell 0).trans rfl;clear y m f z I;obtain ⟨u,ar⟩:=eqx (p+k);obtain ⟨e,x⟩:=eqx ((T.drop p).take k);have F:(T.drop p).take (u - p)=e:=by rw [show u - p=k by omega];exact x
 rw [x];have K:=lhd F;clear x F;have a3:=λw=>aAo T w p u oM (zj Hn.out);have b1:=λw=>pX T w p u oM (zj Hn.out);have a4:¬((p:Int) < 0):=oM;have a5:¬((p:Int) > o):=oM;have a6:¬((k:Int) > o -p):=oM;have a7:¬((k:Int) < 0):=oM;unfold bK;go_enter func9,ntmps9;go_wp2;obtain ⟨W,E⟩:=eqx ((w.alloc (.cells #[(5:Int),(p:Int),(k:Int),.slice AD nd cd] 32)).alloc (.cells #[o0,o0,(),()] 29));rw [E] at v⊢;have f:=v.out;clear E v;refine wp_region_any kR<|bM (pre:=(λw1=>Bk w1 (w.heap.size+1) 29 #[o0,o0,(),()])) (pJ:=(aL8 (w.heap.size+1) (w.heap.size+2) e)) [90,91,92,93,94,95,96,97,98,99,100,101,102,103] (λc=>c=w.heap.size+1) 14 [14] [is gx,is gx,is gx,is (.string ⟨T.toArray⟩),is (.pointer (some ⟨w.heap.size,1,none⟩)),is (p:Int),is (.pointer (some ⟨w.heap.size,1,none⟩)),is (p:Int),is (.pointer (some ⟨w.heap.size,2,none⟩)),is (k:Int),is (u:Int),is (.string ⟨e.toArray⟩),aLa (w.heap.size+2) 1 e.length (e.map bv),aOR (w.heap.size+2) e,cO] _ rfl kR kR (f.wQ) (λw1 az g _ m=>kf g m g.lt) (aJx _ _ _) (by repeat' (first | exact gK _ _ | exact fB _ | exact aEn (λc n=>by subst n;omega) _ _ _ | exact aIu (λc n=>by subst n;omega) _ |(refine zAe.2 ⟨?_,?_⟩)|(intro p U;cases U))) ?_ ?_
 .refine aL<|pH3 0 (.pointer (some gx))<|pV3 0 90<|pV3 1 91<|pL3 2 92 (λb a=>have a:Keep (λc=>c=w.heap.size+1) W b:=kD a;(((a.d f.mod (λg=>absurd (show gx=w.heap.size+1 from g) (zj f.ae))).cell 0).trans rfl:b.cell? gx=some (.string ⟨T.toArray⟩))) ?_;refine pH3 3 (.pointer (some w.heap.size))<|pL3 4 94 (λb a=>have a:Keep (λc=>c=w.heap.size+1) W b:=kD a;(((a.d f.step (λg=>absurd (show w.heap.size=w.heap.size+1 from g) oM)).cell 1).trans rfl:b.cell? ⟨w.heap.size,1,none⟩=some (.int .i64 p))) ?_;refine pH3 3 (.pointer (some w.heap.size))<|pL3 6 96 (λb a=>have a:Keep (λc=>c=w.heap.size+1) W b:=kD a;(((a.d f.step (λg=>absurd (show w.heap.size=w.heap.size+1 from g) oM)).cell 1).trans rfl:b.cell? ⟨w.heap.size,1,none⟩=some (.int .i64 p))) ?_;refine pH3 3 (.pointer (some w.heap.size))<|pL3 8 98 (λb a=>have a:Keep (λc=>c=w.heap.size+1) W b:=kD a;(((a.d f.step (λg=>absurd (show w.heap.size=w.heap.size+1 from g) oM)).cell 2).trans rfl:b.cell? ⟨w.heap.size,2,none⟩=some (.int .i64 k))) ?_;refine sC3 (λ_ _ _ _ _ _ _ d _ _ _ i=>?_) ?_
  .have ae:_=_:=d 7 97 kR rfl;have af:_=_:=d 9 99 kR rfl;go_simp;exact i _ _ (aE bR) (cS zu)
  refine sC3 (λ_ _ _ _ _ _ _ d _ _ _ i=>?_) ?_
  .have ac:_=_:=d 3 93 kR rfl;have ad:_=_:=d 5 95 kR rfl;have a8:_=_:=d 10 100 kR rfl;go_simp;exact i _ _ (aE bR) (congrArg (λa1:List UInt8=>Value.string ⟨a1.toArray⟩) K)
  refine sC3 (λ_ b a _ _ _ _ d _ _ _ i=>?_) ?_
  .replace a:Keep (λc=>c=w.heap.size+1) W b:=kD a;have a9:_=_:=d 11 101 kR rfl;have V:=run_bytes_of_string (P:=prog) b 9 22 5 ⟨e.toArray⟩ underlying9 underlying22 underlying5;rw [bZ e] at V;go_simp;exact i _ _ (aE (bR.drew.alloc nL _)) ⟨_,_,rfl,(aKJ b e _ _ _ _ rfl rfl (.inl rfl)).mono (zk a.size f.wQ.lt)⟩
  refine sC3 (λs b _ _ _ _ _ d _ _ _ i=>?_) ?_
  .have X:(aLa (w.heap.size+2) 1 e.length (e.map bv)) (s (.tmp 102)) b:=d 12 102 kR rfl;obtain ⟨q,r,aa,t⟩:=X;go_simp;exact i _ _ (aE bR) ⟨q,r,rfl,t⟩
  refine sC3 (λs b _ O _ _ S d _ _ _ i=>?_) ?_
  .have j:=O rfl;have ab:s (.tmp 4)=.pointer (some ⟨w.heap.size+1,0,none⟩):=S 4 kR;have Y:(aOR (w.heap.size+2) e) (s (.tmp 103)) b:=d 13 103 kR rfl;obtain ⟨q,r,N,t⟩:=Y;unfold iD at N;have au:b.cell? ⟨w.heap.size+1,0,none⟩=some (.int .i64 0):=(j.cell 0).trans rfl;have ag:=j.frozen 0;have av:b.cell? ⟨w.heap.size+1,1,none⟩=some (.int .i64 0):=(j.cell 1).trans rfl;have ah:=j.frozen 1;have aw:b.cell? ⟨w.heap.size+1,2,none⟩=some (.slice none 0 0):=(j.cell 2).trans rfl;have ai:=j.frozen 2;have ax:b.cell? ⟨w.heap.size+1,3,none⟩=some (.slice none 0 0):=(j.cell 3).trans rfl;have aj:=j.frozen 3;go_simp;exact i (.bool true) _ (aW iY) ⟨q,r,eP j,t.o iY (λc n=>by subst n;omega)⟩
  exact aB
 .intro s A a d G;replace a:Keep (λc=>c=w.heap.size+1) W A:=kD a;obtain ⟨ay,J⟩:∃Z,(aL8 (w.heap.size+1) (w.heap.size+2) e) Z A:=G 14 dC;simp only [zqq];clear d G;obtain ⟨q,r,Q,t⟩:=J;go_wp2;have H:Below w.heap.size w A:=f.low.trans (a.e f.low.size (λc n g=>absurd (show c=w.heap.size+1 from g) oM));exact kP (A1:=q) (c1:=r) (A2:=none) (c2:=0) rfl Q (kF H) (t.mono oM) (aV _ _ _) (L.below H R)
def aCC {gx AD nd} (cd) {x p k aA T D t} (I:T.length=t) {w} (j:Bk w gx 35 #[.string ⟨T.toArray⟩,(aA:Int)]) (s:Rd w x 1 AD nd (D.map bv)) (hB:x<=w.heap.size) (a8:0 < nd->∀y,AD=some y->y.block≠gx) (a7:t<=549755813888) (a6:nd<=549755813888) (ab:-9223372036854775808<=(p:Int)/\(p:Int)<=9223372036854775807) (a9:-9223372036854775808<=(k:Int)/\(k:Int)<=9223372036854775807) (aa:0<=aA/\aA<=2147483648)
 :
 Calls prog 9 #[gx,bK 6 p k AD nd cd] w λA U=>fP gx aA (T) ⟨0,((dY T D).length:Int), [], []⟩ w U A:=by
 have L:D.length=nd:=by simpa using s.1
 have e:=iI (kind:=6) (p:=p) (k:=k) (cd:=cd) j s hB;have o:=e;have K:=j;have O:=j.lt;have al:(⟨T.toArray⟩:ByteArray).size=t:=(bZ T).trans I;have ak:w.cell? gx=some (.string ⟨T.toArray⟩):=(j.cell 0).trans rfl;clear s j e;obtain ⟨q,B⟩:=eqx (dY T D);obtain ⟨m,C⟩:=eqx q.length;rw [B,C];unfold bK;go_enter func9,ntmps9;go_wp2;obtain ⟨W,E⟩:=eqx ((w.alloc (.cells #[(6:Int),(p:Int),(k:Int),.slice AD nd cd] 32)).alloc (.cells #[o0,o0,(),()] 29));rw [E] at o⊢;have e:=o;clear E o;refine wp_region_any kR<|bM (pJ:=(λ_ w1=>Bk w1 (w.heap.size+1) 29 #[o0,(m:Int),(),()])) [179,180,181,182,183,184,185,186,187,188] (λc=>c=w.heap.size+1) 10 [10] [is gx,is gx,is gx,is (.string ⟨T.toArray⟩),is (.pointer (some ⟨w.heap.size,3,none⟩)),is (.slice AD nd cd),is (.string ⟨D.toArray⟩),aLa (w.heap.size+2) 1 m (q.map nv),is (m:Int),is (.agg #[o0,(m:Int),(),()]),cO] _ rfl kR kR (e.wQ) (λw1 ai d _ j=>kf d j d.lt) (λ_ _ _ d k=>kf d k d.lt) (by repeat' (first | exact gK _ _ | exact fB _ | exact aEn (λc r=>by subst r;omega) _ _ _ |(refine zAe.2 ⟨?_,?_⟩)|(intro p Q;cases Q))) ?_ ?_
 .refine aL<|pH3 0 (.pointer (some gx))<|pV3 0 179<|pV3 1 180<|pL3 2 181 (λb a=>have a:Keep (λc=>c=w.heap.size+1) W b:=kD a;(((a.d e.mod (λd=>absurd (show gx=w.heap.size+1 from d) (zj e.ae))).cell 0).trans rfl:b.cell? gx=some (.string ⟨T.toArray⟩))) ?_;refine pH3 3 (.pointer (some w.heap.size))<|pL3 4 183 (λb a=>have a:Keep (λc=>c=w.heap.size+1) W b:=kD a;(((a.d e.step (λd=>absurd (show w.heap.size=w.heap.size+1 from d) oM)).cell 3).trans rfl:b.cell? ⟨w.heap.size,3,none⟩=some (.slice AD nd cd))) ?_;refine sC3 (λ_ b a _ _ _ _ f _ _ _ i=>?_) ?_
  .replace a:Keep (λc=>c=w.heap.size+1) W b:=kD a;have X:_=_:=f 5 184 kR rfl;have ag:=fR (a.rd e.rD e.low.size (λc r d=>absurd (show c=w.heap.size+1 from d) oM));go_simp;exact kq i rfl
  refine sC3 (λ_ b a _ _ _ _ f _ _ _ i=>?_) ?_
  .replace a:Keep (λc=>c=w.heap.size+1) W b:=kD a;have V:_=_:=f 3 182 kR rfl;have Y:_=_:=f 6 185 kR rfl;go_simp;refine (aBf b I L B C oM oM).mono ?_;rintro A aj ⟨v,z,rfl,H,N⟩;exact i _ _ (aE N) ⟨v,z,rfl,(RdN.ca H (.inr rfl)).mono (zk a.size e.wQ.lt)⟩
  refine sC3 (λn b _ _ _ _ _ f _ _ _ i=>?_) ?_
  .have R:(aLa (w.heap.size+2) 1 m (q.map nv)) (n (.tmp 186)) b:=f 7 186 kR rfl;obtain ⟨v,z,Z,H⟩:=R;go_simp;exact kq i rfl
  refine pV3 8 187<|sC3 (λn b _ M _ _ P f _ _ _ i=>?_) ?_
  .have g:=M rfl;have a1:n (.tmp 4)=.pointer (some ⟨w.heap.size+1,0,none⟩):=P 4 kR;have a0:_=_:=f 9 188 kR rfl;have ac:b.cell? ⟨w.heap.size+1,0,none⟩=some (.int .i64 0):=(g.cell 0).trans rfl;have a2:=g.frozen 0;have ad:b.cell? ⟨w.heap.size+1,1,none⟩=some (.int .i64 0):=(g.cell 1).trans rfl;have a3:=g.frozen 1;have ae:b.cell? ⟨w.heap.size+1,2,none⟩=some (.slice none 0 0):=(g.cell 2).trans rfl;have a4:=g.frozen 2;have af:b.cell? ⟨w.heap.size+1,3,none⟩=some (.slice none 0 0):=(g.cell 3).trans rfl;have a5:=g.frozen 3;go_simp;exact i (.bool true) _ (aW iY) (eP g)
  exact aB
 .intro n u a f F;replace a:Keep (λc=>c=w.heap.size+1) W u:=kD a;obtain ⟨ah,J⟩:∃S,(λ_ w1=>Bk w1 (w.heap.size+1) 29 #[o0,(m:Int),(),()]) S u:=F 10 dC;simp only [zqq];clear f F;go_wp2;have G:Below w.heap.size w u:=e.low.trans (a.e e.low.size (λc r d=>absurd (show c=w.heap.size+1 from d) oM));exact kP (A1:=none) (c1:=0) (A2:=none) (c2:=0) rfl J (kF G) (RdN.nil _ _ _ _) (aV _ _ _) (K.below G O)
def aBb {gx AD nd} (cd) {F p k aA T D x} (O:T.length=x) {w} (y:Bk w gx 35 #[.string ⟨T.toArray⟩,(aA:Int)]) (E:Rd w F 1 AD nd (D.map bv)) (hB:F<=w.heap.size) (ac:0 < nd->∀G,AD=some G->G.block≠gx) (ab:x<=549755813888) (aa:nd<=549755813888) (af:-9223372036854775808<=(p:Int)/\(p:Int)<=9223372036854775807) (ad:-9223372036854775808<=(k:Int)/\(k:Int)<=9223372036854775807) (ae:0<=aA/\aA<=2147483648)
 :
 Calls prog 9 #[gx,bK 7 p k AD nd cd] w λH a1=>fP gx aA (T) ⟨0,((dY T D).length:Int), [],dY T D⟩ w a1 H:=by
 have Q:D.length=nd:=by simpa using E.1
 have c:=iI (kind:=7) (p:=p) (k:=k) (cd:=cd) y E hB;have z:=c;have U:=y.lt;have ao:(⟨T.toArray⟩:ByteArray).size=x:=(bZ T).trans O;have an:w.cell? gx=some (.string ⟨T.toArray⟩):=(y.cell 0).trans rfl;clear E c;obtain ⟨j,I⟩:=eqx (dY T D);obtain ⟨d,C⟩:=eqx j.length;rw [I,C];unfold bK;go_enter func9,ntmps9;go_wp2;obtain ⟨W,J⟩:=eqx ((w.alloc (.cells #[(7:Int),(p:Int),(k:Int),.slice AD nd cd] 32)).alloc (.cells #[o0,o0,(),()] 29));rw [J] at z⊢;have c:=z;clear J z;refine wp_region_any kR<|bM (pre:=(λ_=>True)) (pJ:=(jD (w.heap.size+2) 3 1 d (j.map nv))) [191,192,193,194,195,196,197,198,6] (λ_=>False) 8 [] [is gx,is gx,is gx,is (.string ⟨T.toArray⟩),is (.pointer (some ⟨w.heap.size,3,none⟩)),is (.slice AD nd cd),is (.string ⟨D.toArray⟩),jD (w.heap.size+2) 3 1 d (j.map nv),cO] _ rfl kR kR (trivial) (λ_ _ _ _ _=>trivial) (aCk _ _ _ _ _) (by repeat' (first | exact gK _ _ | exact fB _ | exact mT (λA u=>u.elim) _ _ _ _ |(refine zAe.2 ⟨?_,?_⟩)|(intro p V;cases V))) ?_ ?_
 .refine aL<|pH3 0 (.pointer (some gx))<|pV3 0 191<|pV3 1 192<|pL3 2 193 (λb a=>have a:Keep (λ_=>False) W b:=kD a;(((a.d c.mod (λe=>e)).cell 0).trans rfl:b.cell? gx=some (.string ⟨T.toArray⟩))) ?_;refine pH3 3 (.pointer (some w.heap.size))<|pL3 4 195 (λb a=>have a:Keep (λ_=>False) W b:=kD a;(((a.d c.step (λe=>e)).cell 3).trans rfl:b.cell? ⟨w.heap.size,3,none⟩=some (.slice AD nd cd))) ?_;refine sC3 (λ_ b a _ _ _ _ g _ _ _ r=>?_) ?_
  .replace a:Keep (λ_=>False) W b:=kD a;have a3:_=_:=g 5 196 kR rfl;have ak:=fR (a.rd c.rD c.low.size (λA u e=>e));go_simp;exact kq r rfl
  refine sC3 (λ_ b a _ _ _ _ g _ _ _ r=>?_) ?_
  .replace a:Keep (λ_=>False) W b:=kD a;have a2:_=_:=g 3 194 kR rfl;have a4:_=_:=g 6 197 kR rfl;go_simp;refine (aBf (t:=T) (p:=D) (n:=x) (m:=nd) (L:=j) (N:=d) b O Q I C oM oM).mono ?_;rintro H am ⟨o,q,rfl,v,R⟩;exact r _ _ (aE R) ⟨o,q,rfl,v.mono (zk a.size c.wQ.lt)⟩
  refine sC3 (λB b _ _ _ _ _ g _ _ _ r=>?_) ?_
  .have X:(jD (w.heap.size+2) 3 1 d (j.map nv)) (B (.tmp 198)) b:=g 7 198 kR rfl;obtain ⟨o,q,a5,v⟩:=X;go_simp;exact r _ _ (aE bR) ⟨o,q,rfl,v⟩
  exact aB
 .intro B i a g K;replace a:Keep (λ_=>False) W i:=kD a;have Y:(jD (w.heap.size+2) 3 1 d (j.map nv)) (B (.tmp 6)) i:=g 8 6 rfl;obtain ⟨al,Z⟩:∃a0,(jD (w.heap.size+2) 3 1 d (j.map nv)) a0 i:=K 8 dC;simp only [zqq];clear g K;obtain ⟨o,q,P,v⟩:=Y;rw [P];have S:Below w.heap.size w i:=c.low.trans (a.e c.low.size (λA u e=>e));have f:Bk i (w.heap.size+1) 29 #[o0,o0,(),()]:=a.d c.wQ (λe=>e);have ag:i.cell? ⟨w.heap.size+1,0,none⟩=some (.int .i64 0):=(f.cell 0).trans rfl;have a6:=f.frozen 0;have ah:i.cell? ⟨w.heap.size+1,1,none⟩=some (.int .i64 0):=(f.cell 1).trans rfl;have a7:=f.frozen 1;have ai:i.cell? ⟨w.heap.size+1,2,none⟩=some (.slice none 0 0):=(f.cell 2).trans rfl;have a8:=f.frozen 2;have aj:i.cell? ⟨w.heap.size+1,3,none⟩=some (.slice none 0 0):=(f.cell 3).trans rfl;have a9:=f.frozen 3;go_wp2;have M:=lL (v0:=.int .i64 0) (v1:=.int .i64 d) (v2:=.slice none 0 0) (v3:=.slice o d q) (zDT w.heap.size) S;rw [<-C] at*
  exact kP (s:=w.heap.size+1) (A1:=none) (c1:=0) (A2:=o) (c2:=q) rfl (eP f) (kF M) (RdN.nil _ _ _ _) ((v.o iY (λA u=>by subst u;omega)).mono oM) (y.below M U)
def cU:Nat->Int×Int
 | 0=>(1,2)
 | k+1=>((cU k).2,min ((cU k).1+(cU k).2) 2147483648)
def aAq (k):1<=(cU k).1/\(cU k).1<=(cU k).2/\(cU k).2<=2147483648:=by
 induction k with
 | zero=>decide
 | succ k a=>simp only [cU];omega
def oF (b a) (e:b<=a):(cU b).1<=(cU a).1:=by
 induction a with
 | zero=>have:b=0:=oM
         subst this;exact zFF _
 | succ a d=>
  by_cases c:b=a+1;subst c;exact zFF _;have:=d oM;have f:=aAq a;simp only [cU];omega
def least (a:Int):Int:=if a < 0 then 0 else (cU (min a.toNat 45)).1
def aLe:Nat->Int->Int->Int
 | 0,h,_=>h
 | f+1,h,l=>if least (h+1)<=l then aLe f (h+1) l else h
def aA (l:Int):Int:=aLe 45 (-1) l
end
def aIY (k):(cU (k+1)).2<=(cU (k+1)).1+(cU k).1:=by
 simp only [cU];omega
def Tr.as:∀ {e:Tr},e.Avl->(cU e.ht).1<=(e.lv:Int)
 | lf b,_=>by simp [Tr.ht,Tr.lv,cU]
 | nd l d,q=>by
  obtain ⟨r,s,v,x⟩:=q;have j:=Tr.as r;have m:=Tr.as s;have i:∀ {a b:Nat} {f g:Int},(cU a).1<=f->(cU b).1<=g->b<=a->a<=b+1->(cU (a+1)).1<=f+g:=λ{a b f g} p y t u=>by have n:(cU (a+1)).1=(cU a).2:=rfl;rw [n];rcases a with _ | a;have o:b=0:=oM;subst o;have:(cU 0).1=1:=rfl;have:(cU 0).2=2:=rfl;omega;have:=aIY a;have:=oF a b oM;omega
  show (cU (max l.ht d.ht+1)).1<=((l.lv+d.lv:Nat):Int);rcases Nat.le_total l.ht d.ht with c | c;rw [Nat.max_eq_right c];have:=i m j c oM;omega;rw [Nat.max_eq_left c];have:=i j m c oM;omega
def hB (a:Nat):Nat:=(aA ((4*(a+1)/ 128+1:Nat):Int)).toNat
def aDL {c:Nat} {j:Option Addr} {nd:Nat} (m:Nat) {x:Nat} {i n:Int} {aA:Int} {l y:List UInt8} {g:Nat} (H:l.length=g) {a:World} (r:Bk a c 35 #[.string ⟨l.toArray⟩,(aA:Int)]) (w:Rd a x 1 j nd (y.map bv)) (hB:x<=a.heap.size) (Y:0 < nd->∀z,j=some z->z.block≠c) (X:g<=549755813888) (U:nd<=549755813888) (a2:-9223372036854775808<=(i:Int)/\(i:Int)<=9223372036854775807) (a0:-9223372036854775808<=(n:Int)/\(n:Int)<=9223372036854775807) (a1:0<=aA/\aA<=2147483648) (R:¬(i < 0)) (T:¬(i > (g:Int))) (Z:aA -(g:Int) < nd):
 Calls prog 9 #[c,bK 1 i n j nd m] a λD I=>fP c aA (l) ⟨3,0, [], []⟩ a I D:=by
 have W:y.length=nd:=by simpa using w.1
 have e:=iI (kind:=1) (p:=i) (k:=n) (cd:=m) r w hB;have t:=e;have G:=r.lt;have a8:(⟨l.toArray⟩:ByteArray).size=g:=(bZ l).trans H;have a7:a.cell? c=some (.string ⟨l.toArray⟩):=(r.cell 0).trans rfl;clear w e;unfold bK;go_enter func9,ntmps9;go_wp2;obtain ⟨u,B⟩:=eqx ((a.alloc (.cells #[(1:Int),(i:Int),(n:Int),.slice j nd m] 32)).alloc (.cells #[o0,o0,(),()] 29));rw [B] at t⊢;have e:=t;clear B t;refine wp_region_any kR<|aQ (S:=Grow) (V:=(Vs [is (.pointer (some ⟨a.heap.size,3,none⟩)),is (.slice j nd m),is (nd:Int),is c,is c,is (.pointer (some ⟨c,1,none⟩)),is (.int .i64 aA),is (g:Int),is (.int .i64 (aA -(g:Int))),is (.bool true)])) [27,28,29,30,31,32,33,34,35,36] _ rfl kR bR (λ_ _=>Grow.trans) (eY tA2) ?_ ?_
 .refine aL<|pH 3 (.pointer (some a.heap.size))<|pL 0 27 (λo b=>have b:Grow u o:=gD b;(((e.step.below b e.step.lt).cell 3).trans rfl:o.cell? ⟨a.heap.size,3,none⟩=some (.slice j nd m))) ?_;refine pV 1 28<|pH 0 (.pointer (some c))<|pV 3 30<|pV 4 31<|pL 5 32 (λo b=>have b:Grow u o:=gD b;(((e.mod.below b e.mod.lt).cell 1).trans rfl:o.cell? ⟨c,1,none⟩=some (.int .i64 aA))) ?_;refine pH 5 (.int .i64 g)<|sC (λ_ _ _ _ _ _ f _ _ _ v=>?_) ?_
  .have K:_=_:=f 6 33 kR rfl;have L:_=_:=f 7 34 kR rfl;go_simp;exact v _ _ bR (cS zu)
  refine sC (λ_ _ _ _ _ _ f _ _ _ v=>?_) ?_
  .have J:_=_:=f 2 29 kR rfl;have M:_=_:=f 8 35 kR rfl;go_simp;exact v _ _ bR (iA (by simp <;> omega))
  exact aB
 .intro F q b f;replace b:Grow u q:=gD b;have E:F (.tmp 36)=.bool true:=f 9 36 rfl;simp only [zqq];rw [E];clear f;have A:=e.grow b;have d:=A.wQ;have a3:q.cell? ⟨a.heap.size+1,0,none⟩=some (.int .i64 0):=(d.cell 0).trans rfl;have N:=d.frozen 0;have a4:q.cell? ⟨a.heap.size+1,1,none⟩=some (.int .i64 0):=(d.cell 1).trans rfl;have O:=d.frozen 1;have a5:q.cell? ⟨a.heap.size+1,2,none⟩=some (.slice none 0 0):=(d.cell 2).trans rfl;have P:=d.frozen 2;have a6:q.cell? ⟨a.heap.size+1,3,none⟩=some (.slice none 0 0):=(d.cell 3).trans rfl;have Q:=d.frozen 3;go_wp2;have C:=lL (v0:=.int .i64 3) (v1:=.int .i64 0) (v2:=.slice none 0 0) (v3:=.slice none 0 0) (zDT a.heap.size) A.low;exact kP (s:=a.heap.size+1) (A1:=none) (c1:=0) (A2:=none) (c2:=0) rfl (eP d) (kF C) (RdN.nil _ _ _ _) (aV _ _ _) (r.below C G)
def aHu {a:Nat} {r:Option Addr} {nd:Nat} (t:Nat) {E:Nat} {d:Nat} {u:Int} {aA:Int} {g v:List UInt8} {q:Nat} (x:g.length=q) {b:World} (w:Bk b a 35 #[.string ⟨g.toArray⟩,(aA:Int)]) (D:Rd b E 1 r nd (v.map bv)) (hB:E<=b.heap.size) (R:0 < nd->∀G,r=some G->G.block≠a) (ar:q<=549755813888) (ap:nd<=549755813888) (az:-9223372036854775808<=(d:Int)/\(d:Int)<=9223372036854775807) (ax:-9223372036854775808<=(u:Int)/\(u:Int)<=9223372036854775807) (ay:0<=aA/\aA<=2147483648) (ao:d<=q) (au:(nd:Int)<=aA -q):
 Calls prog 9 #[a,bK 1 d u r nd t] b λO X=>fP a aA (g.take d++(v++g.drop (d+0))) ⟨0,0, [], []⟩ b X O:=by
 have aq:v.length=nd:=by simpa using D.1
 have f:=iI (kind:=1) (p:=d) (k:=u) (cd:=t) w D hB;have C:=f;have Y:=w;have av:=w.lt;have aM:(⟨g.toArray⟩:ByteArray).size=q:=(bZ g).trans x;have aK:b.cell? a=some (.string ⟨g.toArray⟩):=(w.cell 0).trans rfl;clear D w f;obtain ⟨A,I⟩:=eqx ((g.take d++v)++g.drop d);have J:g.take d++(v++g.drop (d+0))=A:=by rw [zBq,<-zCo];exact I
 rw [J];clear J;have Z:=λb=>aL5 g b d (zj x);have a0:=λb=>aL4 g b d (zj x);have b1:=λb=>aCM g b d (zj x);have b2:=λb=>aCL g b d (zj x);have a4:¬((d:Int) < 0):=oM;have a5:¬((d:Int) > q):=oM;unfold bK;go_enter func9,ntmps9;go_wp2;obtain ⟨B,K⟩:=eqx ((b.alloc (.cells #[(1:Int),(d:Int),(u:Int),.slice r nd t] 32)).alloc (.cells #[o0,o0,(),()] 29));rw [K] at C⊢;have f:=C;clear K C;refine wp_region_any kR<|aQ (S:=Grow) (V:=(Vs [is (.pointer (some ⟨b.heap.size,3,none⟩)),is (.slice r nd t),is (nd:Int),is a,is a,is (.pointer (some ⟨a,1,none⟩)),is (.int .i64 aA),is (q:Int),is (.int .i64 (aA -(q:Int))),is (.bool false)])) [27,28,29,30,31,32,33,34,35,36] _ rfl kR bR (λ_ _=>Grow.trans) (eY tA2) ?_ ?_
 .refine aL<|pH 3 (.pointer (some b.heap.size))<|pL 0 27 (λi c=>have c:Grow B i:=gD c;(((f.step.below c f.step.lt).cell 3).trans rfl:i.cell? ⟨b.heap.size,3,none⟩=some (.slice r nd t))) ?_;refine pV 1 28<|pH 0 (.pointer (some a))<|pV 3 30<|pV 4 31<|pL 5 32 (λi c=>have c:Grow B i:=gD c;(((f.mod.below c f.mod.lt).cell 1).trans rfl:i.cell? ⟨a,1,none⟩=some (.int .i64 aA))) ?_;refine pH 5 (.int .i64 q)<|sC (λ_ _ _ _ _ _ e _ _ _ l=>?_) ?_
  .have a7:_=_:=e 6 33 kR rfl;have a8:_=_:=e 7 34 kR rfl;go_simp;exact l _ _ bR (cS zu)
  refine sC (λ_ _ _ _ _ _ e _ _ _ l=>?_) ?_
  .have a6:_=_:=e 2 29 kR rfl;have a9:_=_:=e 8 35 kR rfl;go_simp;exact l _ _ bR (iA (by simp <;> omega))
  exact aB
 .intro H n c e;replace c:Grow B n:=gD c;have P:H (.tmp 36)=.bool false:=e 9 36 rfl;simp only [zqq];rw [P];clear e;have N:=f.grow c;clear f c;revert N;generalize n=W2;intro f;go_wp2;refine wp_region_any kR<|bM (pre:=(λw1=>Bk w1 a 35 #[.string ⟨g.toArray⟩,(aA:Int)])) (pJ:=(λ_ w1=>Bk w1 a 35 #[.string ⟨A.toArray⟩,(aA:Int)])) [38,39,40,41,42,43,44,45,46,47,48,49,50,51,52,53,54,55,56,57,58,59] (λm=>m=a) 22 [4,15,22] [is a,is a,is a,is a,is (.string ⟨g.toArray⟩),is (.pointer (some ⟨b.heap.size,1,none⟩)),is (d:Int),is (.string ⟨(g.take d).toArray⟩),is (.pointer (some ⟨b.heap.size,3,none⟩)),is (.slice r nd t),is (.string ⟨v.toArray⟩),is (.string ⟨(g.take d++v).toArray⟩),is a,is a,is a,is (.string ⟨g.toArray⟩),is (.pointer (some ⟨b.heap.size,1,none⟩)),is (d:Int),is (.string ⟨(g.drop d).toArray⟩),is (.string ⟨A.toArray⟩),is a,is a,cO] _ rfl kR kR (f.mod) (λw1 aJ j _ w=>kf j w j.lt) (λ_ _ _ j u=>kf j u j.lt) tA1 ?_ ?_
  .refine aL<|pH3 0 (.pointer (some a))<|pH3 0 (.pointer (some a))<|pV3 1 39<|pV3 2 40<|sC3 (λ_ i _ z _ _ _ e _ _ _ l=>?_) ?_
   .have y:=z rfl;have aa:_=_:=e 3 41 kR rfl;have a2:i.cell? a=some (.string ⟨g.toArray⟩):=(y.cell 0).trans rfl;go_simp;exact kq l rfl
   refine pH3 3 (.pointer (some b.heap.size))<|pL3 5 43 (λi c=>have c:Keep (λm=>m=a) W2 i:=kD c;(((c.d f.step (λj=>absurd (show b.heap.size=a from j) (zj f.ae))).cell 1).trans rfl:i.cell? ⟨b.heap.size,1,none⟩=some (.int .i64 d))) ?_;refine pW3 4 42 6 44<|pH3 3 (.pointer (some b.heap.size))<|pL3 8 46 (λi c=>have c:Keep (λm=>m=a) W2 i:=kD c;(((c.d f.step (λj=>absurd (show b.heap.size=a from j) (zj f.ae))).cell 3).trans rfl:i.cell? ⟨b.heap.size,3,none⟩=some (.slice r nd t))) ?_;refine sC3 (λ_ i c _ _ _ _ e _ _ _ l=>?_) ?_
   .replace c:Keep (λm=>m=a) W2 i:=kD c;have ac:_=_:=e 9 47 kR rfl;have aH:=fR (Rd.o f.rD c f.low.size R);go_simp;exact kq l rfl
   refine sC3 (λ_ _ _ _ _ _ _ e _ _ _ l=>?_) ?_
   .have ab:_=_:=e 7 45 kR rfl;have ad:_=_:=e 10 48 kR rfl;go_simp;rw [zBw (by have:=x;simp;omega)];exact l _ _ (aE bR) (jV _ _)
   refine pH3 0 (.pointer (some a))<|pV3 12 50<|pV3 13 51<|sC3 (λ_ i _ z _ _ _ e _ _ _ l=>?_) ?_
   .have y:=z rfl;have af:_=_:=e 14 52 kR rfl;have a3:i.cell? a=some (.string ⟨g.toArray⟩):=(y.cell 0).trans rfl;go_simp;exact kq l rfl
   refine pH3 3 (.pointer (some b.heap.size))<|pL3 16 54 (λi c=>have c:Keep (λm=>m=a) W2 i:=kD c;(((c.d f.step (λj=>absurd (show b.heap.size=a from j) (zj f.ae))).cell 1).trans rfl:i.cell? ⟨b.heap.size,1,none⟩=some (.int .i64 d))) ?_;refine pW3 15 53 17 55<|sC3 (λ_ _ _ _ _ _ _ e _ _ _ l=>?_) ?_
   .have ae:_=_:=e 11 49 kR rfl;have ag:_=_:=e 18 56 kR rfl;go_simp;rw [zBw (by have:=x;simp;omega)];exact l _ _ (aE bR) ((jV _ _).trans (by rw [I]))
   refine pV3 0 38<|pV3 20 58<|sC3 (λ_ i _ z _ _ _ e _ _ _ l=>?_) ?_
   .have y:=z rfl;have ai:_=_:=e 21 59 kR rfl;have ah:_=_:=e 19 57 kR rfl;have am:=y.frozen 0;have a1:i.cell? a=some (.string ⟨g.toArray⟩):=(y.cell 0).trans rfl;go_simp;exact l (.bool true) _ (aW (ka (F:=λm=>m=a) (ke _ _) (p:=a) (.inl rfl) _)) (y.set 0 _)
   exact aB
  .intro H n c e L;replace c:Keep (λm=>m=a) W2 n:=kD c;obtain ⟨aI,M⟩:∃U,(λ_ w1=>Bk w1 a 35 #[.string ⟨A.toArray⟩,(aA:Int)]) U n:=L 22 dC;simp only [zqq];clear e L;have aw:=f.ae;have o:=c.d f.wQ (λj=>absurd (show b.heap.size+1=a from j) oM);have aC:n.cell? ⟨b.heap.size+1,0,none⟩=some (.int .i64 0):=(o.cell 0).trans rfl;have aj:=o.frozen 0;have aD:n.cell? ⟨b.heap.size+1,1,none⟩=some (.int .i64 0):=(o.cell 1).trans rfl;have ak:=o.frozen 1;have aF:n.cell? ⟨b.heap.size+1,2,none⟩=some (.slice none 0 0):=(o.cell 2).trans rfl;have al:=o.frozen 2;have aG:n.cell? ⟨b.heap.size+1,3,none⟩=some (.slice none 0 0):=(o.cell 3).trans rfl;have an:=o.frozen 3;go_wp2;have Q:=nB (v0:=.int .i64 0) (v1:=.int .i64 0) (v2:=.slice none 0 0) (v3:=.slice none 0 0) (zDT b.heap.size) ((kF f.low).trans c);have T:=iY (W:=n) (s:=b.heap.size+1) (v0:=.int .i64 0) (v1:=.int .i64 0) (v2:=.slice none 0 0) (v3:=.slice none 0 0);exact kP (s:=b.heap.size+1) (A1:=none) (c1:=0) (A2:=none) (c2:=0) rfl (eP o) Q (RdN.nil _ _ _ _) (aV _ _ _) (T.d M (λj=>absurd (show a=b.heap.size+1 from j) (zj f.ae)))
def aHt {b:Nat} {o:Option Addr} {nd:Nat} (q:Nat) {G:Nat} {c:Nat} {r:Int} {aA:Int} {e t:List UInt8} {z:Nat} (w:e.length=z) {a:World} (v:Bk a b 35 #[.string ⟨e.toArray⟩,(aA:Int)]) (E:Rd a G 1 o nd (t.map bv)) (hB:G<=a.heap.size) (P:0 < nd->∀H,o=some H->H.block≠b) (ap:z<=549755813888) (an:nd<=549755813888) (aw:-9223372036854775808<=(c:Int)/\(c:Int)<=9223372036854775807) (au:-9223372036854775808<=(r:Int)/\(r:Int)<=9223372036854775807) (av:0<=aA/\aA<=2147483648) (am:c+nd<=z):
 Calls prog 9 #[b,bK 3 c r o nd q] a λN T=>fP b aA (e.take c++(t++e.drop (c+nd))) ⟨0,0, [], []⟩ a T N:=by
 have ao:t.length=nd:=by simpa using E.1
 have f:=iI (kind:=3) (p:=c) (k:=r) (cd:=q) v E hB;have D:=f;have U:=v;have aq:=v.lt;have aI:(⟨e.toArray⟩:ByteArray).size=z:=(bZ e).trans w;have aH:a.cell? b=some (.string ⟨e.toArray⟩):=(v.cell 0).trans rfl;clear E v f;obtain ⟨B,Q⟩:=eqx (c+nd);obtain ⟨C,I⟩:=eqx ((e.take c++t)++e.drop B);have J:e.take c++(t++e.drop (c+nd))=C:=by rw [Q,<-zCo];exact I
 rw [J];clear J;have V:=λa=>aL5 e a c (zj w);have X:=λa=>aL4 e a B (zj w);have b1:=λa=>aCM e a c (zj w);have b2:=λa=>aCL e a B (zj w);have a1:¬((c:Int) < 0):=oM;have a2:¬((c:Int) > z):=oM;have a3:¬((nd:Int) > z -c):=oM;have a4:¬((nd:Int) < 0):=oM;unfold bK;go_enter func9,ntmps9;go_wp2;obtain ⟨u,K⟩:=eqx ((a.alloc (.cells #[(3:Int),(c:Int),(r:Int),.slice o nd q] 32)).alloc (.cells #[o0,o0,(),()] 29));rw [K] at D⊢;have f:=D;clear K D;refine wp_region_any kR<|bM (pJ:=(λ_ w1=>Bk w1 b 35 #[.string ⟨C.toArray⟩,(aA:Int)])) [147,148,149,150,151,152,153,154,155,156,157,158,159,160,161,162,163,164,165,166,167,168,169,170,171,172] (λl=>l=b) 26 [4,15,26] [is b,is b,is b,is b,is (.string ⟨e.toArray⟩),is (.pointer (some ⟨a.heap.size,1,none⟩)),is (c:Int),is (.string ⟨(e.take c).toArray⟩),is (.pointer (some ⟨a.heap.size,3,none⟩)),is (.slice o nd q),is (.string ⟨t.toArray⟩),is (.string ⟨(e.take c++t).toArray⟩),is b,is b,is b,is (.string ⟨e.toArray⟩),is (.pointer (some ⟨a.heap.size,1,none⟩)),is (c:Int),is (.pointer (some ⟨a.heap.size,3,none⟩)),is (.slice o nd q),is (nd:Int),is (B:Int),is (.string ⟨(e.drop B).toArray⟩),is (.string ⟨C.toArray⟩),is b,is b,cO] _ rfl kR kR (f.mod) (λw1 aG j _ v=>kf j v j.lt) (λ_ _ _ j r=>kf j r j.lt) tA1 ?_ ?_
 .refine aL<|pH3 0 (.pointer (some b))<|pH3 0 (.pointer (some b))<|pV3 1 148<|pV3 2 149<|sC3 (λ_ i _ A _ _ _ g _ _ _ m=>?_) ?_
  .have x:=A rfl;have a5:_=_:=g 3 150 kR rfl;have Y:i.cell? b=some (.string ⟨e.toArray⟩):=(x.cell 0).trans rfl;go_simp;exact kq m rfl
  refine pH3 3 (.pointer (some a.heap.size))<|pL3 5 152 (λi d=>have d:Keep (λl=>l=b) u i:=kD d;(((d.d f.step (λj=>absurd (show a.heap.size=b from j) (zj f.ae))).cell 1).trans rfl:i.cell? ⟨a.heap.size,1,none⟩=some (.int .i64 c))) ?_;refine pW3 4 151 6 153<|pH3 3 (.pointer (some a.heap.size))<|pL3 8 155 (λi d=>have d:Keep (λl=>l=b) u i:=kD d;(((d.d f.step (λj=>absurd (show a.heap.size=b from j) (zj f.ae))).cell 3).trans rfl:i.cell? ⟨a.heap.size,3,none⟩=some (.slice o nd q))) ?_;refine sC3 (λ_ i d _ _ _ _ g _ _ _ m=>?_) ?_
  .replace d:Keep (λl=>l=b) u i:=kD d;have a7:_=_:=g 9 156 kR rfl;have aD:=fR (Rd.o f.rD d f.low.size P);go_simp;exact kq m rfl
  refine sC3 (λ_ _ _ _ _ _ _ g _ _ _ m=>?_) ?_
  .have a6:_=_:=g 7 154 kR rfl;have a8:_=_:=g 10 157 kR rfl;go_simp;rw [zBw (by have:=w;simp;omega)];exact m _ _ (aE bR) (jV _ _)
  refine pH3 0 (.pointer (some b))<|pV3 12 159<|pV3 13 160<|sC3 (λ_ i _ A _ _ _ g _ _ _ m=>?_) ?_
  .have x:=A rfl;have aa:_=_:=g 14 161 kR rfl;have Z:i.cell? b=some (.string ⟨e.toArray⟩):=(x.cell 0).trans rfl;go_simp;exact kq m rfl
  refine pH3 3 (.pointer (some a.heap.size))<|pL3 16 163 (λi d=>have d:Keep (λl=>l=b) u i:=kD d;(((d.d f.step (λj=>absurd (show a.heap.size=b from j) (zj f.ae))).cell 1).trans rfl:i.cell? ⟨a.heap.size,1,none⟩=some (.int .i64 c))) ?_;refine pH3 3 (.pointer (some a.heap.size))<|pL3 18 165 (λi d=>have d:Keep (λl=>l=b) u i:=kD d;(((d.d f.step (λj=>absurd (show a.heap.size=b from j) (zj f.ae))).cell 3).trans rfl:i.cell? ⟨a.heap.size,3,none⟩=some (.slice o nd q))) ?_;refine pV3 19 166<|sC3 (λ_ _ _ _ _ _ _ g _ _ _ m=>?_) ?_
  .have ab:_=_:=g 17 164 kR rfl;have ac:_=_:=g 20 167 kR rfl;go_simp;exact m _ _ (aE bR) (cS zu)
  refine pW3 15 162 21 168<|sC3 (λ_ _ _ _ _ _ _ g _ _ _ m=>?_) ?_
  .have a9:_=_:=g 11 158 kR rfl;have ad:_=_:=g 22 169 kR rfl;go_simp;rw [zBw (by have:=w;simp;omega)];exact m _ _ (aE bR) ((jV _ _).trans (by rw [I]))
  refine pV3 0 147<|pV3 24 171<|sC3 (λ_ i _ A _ _ _ g _ _ _ m=>?_) ?_
  .have x:=A rfl;have af:_=_:=g 25 172 kR rfl;have ae:_=_:=g 23 170 kR rfl;have ak:=x.frozen 0;have a0:i.cell? b=some (.string ⟨e.toArray⟩):=(x.cell 0).trans rfl;go_simp;exact m (.bool true) _ (aW (ka (F:=λl=>l=b) (ke _ _) (p:=b) (.inl rfl) _)) (x.set 0 _)
  exact aB
 .intro ag y d g L;replace d:Keep (λl=>l=b) u y:=kD d;obtain ⟨aF,M⟩:∃S,(λ_ w1=>Bk w1 b 35 #[.string ⟨C.toArray⟩,(aA:Int)]) S y:=L 26 dC;simp only [zqq];clear g L;have ar:=f.ae;have n:=d.d f.wQ (λj=>absurd (show a.heap.size+1=b from j) oM);have ax:y.cell? ⟨a.heap.size+1,0,none⟩=some (.int .i64 0):=(n.cell 0).trans rfl;have ah:=n.frozen 0;have ay:y.cell? ⟨a.heap.size+1,1,none⟩=some (.int .i64 0):=(n.cell 1).trans rfl;have ai:=n.frozen 1;have az:y.cell? ⟨a.heap.size+1,2,none⟩=some (.slice none 0 0):=(n.cell 2).trans rfl;have aj:=n.frozen 2;have aC:y.cell? ⟨a.heap.size+1,3,none⟩=some (.slice none 0 0):=(n.cell 3).trans rfl;have al:=n.frozen 3;go_wp2;have O:=nB (v0:=.int .i64 0) (v1:=.int .i64 0) (v2:=.slice none 0 0) (v3:=.slice none 0 0) (zDT a.heap.size) ((kF f.low).trans d);have R:=iY (W:=y) (s:=a.heap.size+1) (v0:=.int .i64 0) (v1:=.int .i64 0) (v2:=.slice none 0 0) (v3:=.slice none 0 0);exact kP (s:=a.heap.size+1) (A1:=none) (c1:=0) (A2:=none) (c2:=0) rfl (eP n) O (RdN.nil _ _ _ _) (aV _ _ _) (R.d M (λj=>absurd (show b=a.heap.size+1 from j) (zj f.ae)))
def aJH {f:Nat} {g:Option Addr} {nd:Nat} (i:Nat) {n:Nat} (a:Int) {e d:Int} {aA:Int} {c o:List UInt8} {m:Nat} (t:c.length=m) {b:World} (j:Bk b f 35 #[.string ⟨c.toArray⟩,(aA:Int)]) (l:Rd b n 1 g nd (o.map bv)) (hB:n<=b.heap.size) (z:0 < nd->∀q,g=some q->q.block≠f) (y:m<=549755813888) (w:nd<=549755813888) (D:-9223372036854775808<=(e:Int)/\(e:Int)<=9223372036854775807) (B:-9223372036854775808<=(d:Int)/\(d:Int)<=9223372036854775807) (C:0<=aA/\aA<=2147483648) (s:a < 1∨8 < a):
 Calls prog 9 #[f,bK a e d g nd i] b λr u=>fP f aA (c) ⟨1,0, [], []⟩ b u r:=by
 have x:o.length=nd:=by simpa using l.1
 have v:=iI (kind:=a) (p:=e) (k:=d) (cd:=i) j l hB;have A:=j.lt;have N:(⟨c.toArray⟩:ByteArray).size=m:=(bZ c).trans t;have M:b.cell? f=some (.string ⟨c.toArray⟩):=(j.cell 0).trans rfl;clear l;have E:(a==1)=false:=by rw [zCb];omega
 have F:(a==2)=false:=by rw [zCb];omega
 have G:(a==3)=false:=by rw [zCb];omega
 have H:(a==4)=false:=by rw [zCb];omega
 have I:(a==5)=false:=by rw [zCb];omega
 have J:(a==6)=false:=by rw [zCb];omega
 have K:(a==7)=false:=by rw [zCb];omega
 have L:(a==8)=false:=by rw [zCb];omega
 clear s;unfold bK;go_enter func9,ntmps9;go_wp2;exact kP (A1:=none) (c1:=0) (A2:=none) (c2:=0) rfl (aCX b a e d g nd i #[(1:Int),o0,(),()]) (kF (zE _ _ _ _ _ _ _ _)) (RdN.nil _ _ _ _) (aV _ _ _) ((j.alloc _).alloc _)
def aNv {x y nd} (c) {B k o r aA v u C M} (a:doM v aA k o r u=(C,M)) {t} (g:Bk t x 35 #[.string ⟨v.toArray⟩,(aA:Int)]) (l:Rd t B 1 y nd (u.map bv)) (hB:B<=t.heap.size) (m:0 < nd->∀p,y=some p->p.block≠x) (P:v.length<=549755813888) (e:nd<=549755813888) (j:-9223372036854775808<=o/\o<=9223372036854775807) (i:-9223372036854775808<=r/\r<=9223372036854775807) (n:0<=aA/\aA<=2147483648):
 Calls prog 9 #[x,bK k o r y nd c] t λN O=>fP x aA C M t O N:=by
 have z:u.length=nd:=by simpa using l.1
 obtain ⟨s,d⟩:=eqx v.length;have f:s<=549755813888:=oM;unfold doM at a;rw [d] at a;by_cases E:k=1
 .subst E;rw [zBx rfl] at a;cases b:dK s o 0 with
  | false=>
   rw [zBx b] at a;cases a;exact tQ c d g f e j i (.inl ⟨.inl ⟨rfl,rfl⟩,b,rfl,rfl⟩)
  | true=>
   rw [zBw (by rw [b];decide)] at a;by_cases A:aA -(s:Int) < u.length;rw [zBx A] at a;cases a;obtain ⟨p,w,rfl,D,q⟩:=dT b;exact aDL c d g l hB m f e j i n oM oM (by rw [<-z];exact A);rw [zBw A] at a;cases a;obtain ⟨p,w,rfl,D,q⟩:=dT b;exact aHu c d g l hB m f e j i n oM (by rw [<-z];omega)
 rw [zBw E] at a;by_cases F:k=2
 .subst F;rw [zBx rfl] at a;cases b:dK s o r with
  | false=>
   rw [zBx b] at a;cases a;exact tQ c d g f e j i (.inl ⟨.inr (.inl ⟨rfl,rfl⟩),b,rfl,rfl⟩)
  | true=>
   rw [zBw (by rw [b];decide)] at a;cases a;obtain ⟨p,w,rfl,rfl,q⟩:=dT b;exact aBc c d g l hB m f e j i n q
 rw [zBw F] at a;by_cases I:k=5
 .subst I;rw [zBx rfl] at a;cases b:dK s o r with
  | false=>
   rw [zBx b] at a;cases a;exact tQ c d g f e j i (.inl ⟨.inr (.inr (.inl ⟨rfl,rfl⟩)),b,rfl,rfl⟩)
  | true=>
   rw [zBw (by rw [b];decide)] at a;cases a;obtain ⟨p,w,rfl,rfl,q⟩:=dT b;exact yJ c d g l hB m f e j i n q
 rw [zBw I] at a;by_cases G:k=3
 .subst G;rw [zBx rfl,z] at a;cases b:dK s o nd with
  | false=>
   rw [zBx b] at a;cases a;exact tQ c d g f e j i (.inl ⟨.inr (.inr (.inr ⟨rfl,rfl⟩)),b,rfl,rfl⟩)
  | true=>
   rw [zBw (by rw [b];decide)] at a;cases a;obtain ⟨p,w,rfl,D,q⟩:=dT b;exact aHt c d g l hB m f e j i n oM
 rw [zBw G] at a;by_cases H:k=4;subst H;rw [zBx rfl] at a;cases a;exact tQ (k':=0) c d g f e j i (.inr (.inl ⟨rfl,rfl,rfl⟩));rw [zBw H] at a;by_cases J:k=6;subst J;rw [zBx rfl] at a;cases a;exact aCC c d g l hB m f e j i n;rw [zBw J] at a;by_cases K:k=7;subst K;rw [zBx rfl] at a;cases a;exact aBb c d g l hB m f e j i n;rw [zBw K] at a;by_cases L:k=8;subst L;rw [zBx rfl] at a;cases a;exact tQ (k':=0) c d g f e j i (.inr (.inr ⟨rfl,rfl,rfl⟩));rw [zBw L] at a;cases a;exact aJH c k d g l hB m f e j i n oM
def StAt.save {w d gs gl aA rate own b c} (a:StAt w d own gs gl aA rate b) (j:IsSuf (aG b) c):
 Calls prog 24 #[gl,(aA:Int)] w (gJ w d (fC (aH (aG b) c) c aA rate b.length)):=by
 obtain ⟨n,gk,k,m,e,f,i,l,g⟩:=a.tp;obtain rfl:=e.unique j;exact vF f i e g a.r1 a.r2 a.len a.max
def tP {Bw own gs gl aA rate t rs w} (n:StAt w Bw own gs gl aA rate t) (x:IsSuf (aG t) rs):
 Calls prog 10 #[gs] w (gJ w Bw (fC (aH (aG t) rs) rs aA rate t.length)):=by
 have y:∀w1,VB Bw w w1->Calls prog 24 #[gl,(aA:Int)] w1 (gJ w1 Bw (fC (aH (aG t) rs) rs aA rate t.length)):=λw1 q=>(n.G q.1).save x;obtain ⟨k,v⟩:=eqx (fC (aH (aG t) rs) rs aA rate t.length);rw [v] at y⊢;obtain ⟨f,e⟩:=eqx k.length;have s:=e;have u:=n.a;clear n x v e;unfold gJ;rw [s];go_enter func10,ntmps10;go_wp2_with fail;refine wp_region_any kR<|aQ (S:=(VB Bw)) (V:=(Vs [is gs,is gs,is gs,is gl,is gs,is gs,is (.pointer (some ⟨gs,1,none⟩)),is (aA:Int),λg i=>∃a b,g=.tuple #[.slice a f b,o0]/\Made i w.heap.size 5 1 a f b (k.map bv),λg i=>∃a b,g=.slice a f b/\Made i w.heap.size 5 1 a f b (k.map bv),is o0,λg i=>∃a b,g=.slice a f b/\Made i w.heap.size 5 1 a f b (k.map bv),is o0])) [6,7,8,9,10,11,12,13,14,15,16,2,3] _ rfl kR vR (λ_ _=>VisK.trans) (dI (by repeat' (first | exact jN _ _ | exact lE _ | exact λ_ _ _ ⟨A,C,H,I⟩ q=>⟨A,C,H,q.1.made I dC dC⟩|(refine zAe.2 ⟨?_,?_⟩)|(intro X K;cases K)))) ?_ ?_
 .refine aL<|pH 0 (.pointer (some gs))<|pV 0 6<|pV 1 7<|sC (λ_ j c _ _ _ d _ _ _ e=>?_) ?_
  .have U:_=_:=d 2 8 kR rfl;replace c:(VB Bw) w j:=bD c;have o:=c.1.d u dC dC;have D:=o.cell 0;go_simp;exact e _ _ vR rfl
  refine pH 0 (.pointer (some gs))<|pV 4 10<|pV 5 11<|sC (λ_ j c _ _ _ d _ _ _ e=>?_) ?_
  .have P:_=_:=d 6 12 kR rfl;replace c:(VB Bw) w j:=bD c;have o:=c.1.d u dC dC;have D:=o.cell 1;go_simp;exact e _ _ vR rfl
  refine sC (λ_ j c _ _ _ d _ _ _ e=>?_) ?_
  .have W:_=_:=d 3 9 kR rfl;have Q:_=_:=d 7 13 kR rfl;replace c:(VB Bw) w j:=bD c;go_simp;have p:=y j c;unfold gJ at p;rw [s] at p;refine p.mono ?_;rintro O Y ⟨a,b,rfl,m,L⟩;exact e _ _ L ⟨a,b,rfl,m.mono c.1.size⟩
  refine sC (λl j _ _ _ _ d _ _ _ e=>?_) ?_
  .have r:(λg i=>∃a b,g=.tuple #[.slice a f b,o0]/\Made i w.heap.size 5 1 a f b (k.map bv)) (l (.tmp 14)) j:=d 8 14 kR rfl;obtain ⟨a,b,E,m⟩:=r;go_simp;exact e _ _ vR ⟨a,b,rfl,m⟩
  refine sC (λl j _ _ _ _ d _ _ _ e=>?_) ?_
  .have r:(λg i=>∃a b,g=.tuple #[.slice a f b,o0]/\Made i w.heap.size 5 1 a f b (k.map bv)) (l (.tmp 14)) j:=d 8 14 kR rfl;obtain ⟨a,b,E,m⟩:=r;go_simp;exact e _ _ vR rfl
  refine sC (λl j _ _ _ _ d _ _ _ e=>?_) ?_
  .have M:(λg i=>∃a b,g=.slice a f b/\Made i w.heap.size 5 1 a f b (k.map bv)) (l (.tmp 15)) j:=d 9 15 kR rfl;obtain ⟨a,b,R,m⟩:=M;go_simp;exact e _ _ vR ⟨a,b,rfl,m⟩
  refine pV 10 16 ?_;exact aB
 .intro l z c d;replace c:(VB Bw) w z:=bD c;have N:(λg i=>∃a b,g=.slice a f b/\Made i w.heap.size 5 1 a f b (k.map bv)) (l (.tmp 2)) z:=d 11 2 rfl;have G:l (.tmp 3)=.int .i64 0:=d 12 3 rfl;simp only [zqq];rw [G];clear d;obtain ⟨a,b,F,J⟩:=N;rw [F];go_wp2_with fail;go_ret2;exact ⟨a,b,rfl,J,c⟩
def aCE (w:World) (d:Nat) (g:List UInt8) (e a:Nat) (f:Ending) (w':World):Prop:=
 ∃b c,f=.returned (.tuple #[.slice b a c,o0])/\Made w' w.heap.size 5 1 b a c (((g.drop e).take a).map bv)/\VB d w w'
def aCD {l gl rate e} (d t) {w} (A:TpAt w l gl e rate) (a3:TabW w) (aw:0 < l) (bu:d+t<=e.length):
 Calls prog 18 #[gl,(d:Int),(t:Int)] w (aCE w l e d t):=by
 obtain ⟨bE,bq,ag,bA,bD⟩:=info_parts yY;obtain ⟨u,gk,bl,c6,K,I,aP,ag,aF⟩:=A;have az:u.length=e.length+1:=by rw [K.len,aO]
 have a1:(aH (aG e) u).length=e.length+1:=by rw [bY,az]
 have V:∀o,o<=e.length->∃D,u[D]?=some o:=λo aM=>by obtain ⟨D,br,j⟩:=K.row (p:=o) (by rw [aO];omega);exact ⟨D,zAc.2 ⟨br,j⟩⟩
 have aL:∀(m D o:Nat) (g:UInt8),u[m]?=some (o+1)->u[D]?=some o->e[o]?=some g->(aH (aG e) u)[m]?=some (g.toNat+1)/\cR (aH (aG e) u) (g.toNat+1) m=D:=λm D o g Z a0 Q=>aK1 K Z a0 Q;obtain ⟨m,a9⟩:=V d oM;have aN:=gP l gl gk bl rate w I aP K aF a9;obtain ⟨c5,a6⟩:=I.a;clear aP ag;obtain ⟨P,a2⟩:=eqx e.length;rw [a2] at a1 V bu aF;have c3:0 < w.heap.size:=a3.pos;have bZ:=a6.lt;have bH:decide ((d:Int) < 0)=false:=zs
 have bI:decide ((t:Int) < 0)=false:=zs
 have aT:¬P < d:=oM;have bK:=zBy aT;obtain ⟨Y,bp⟩:=eqx (P - d);have bL:IntKind.i64.wrap (P -d)=(Y:Int):=zu
 have aU:¬Y < t:=oM;have bM:=zBy aU;obtain ⟨am,ar,ak,ba,b7,N⟩:=hqq6 I.ai I.walk a6 V aL a1;have ai:=lhd (dR (eX e) (rs:=u));obtain ⟨b2,aj,b0⟩:=hqq3 a9 a3 a2;clear a6 I V aL a1 a9 a3 K az a2 bp;unfold aCE;go_enter func18,ntmps18;go_wp2_with fail;refine (cD am N oM).mono ?_;rintro j w1 ⟨rfl,rfl⟩;go_wp2_with fail;refine (cD am N oM).mono ?_;rintro j w1 ⟨rfl,rfl⟩;go_wp2_with fail;refine aN.mono ?_;rintro j q ⟨rfl,aQ⟩;have bd:=lhd aQ;clear aN aQ bH bI aT bK bL aU bM;go_wp2_with fail;go_loopw [8,9,40] (λbO r m wr=>∃a row:Nat,a<=t/\m=.int .i64 a/\r=.int .i64 row/\u[row]?=some (d+a)/\wr.ownsRow w.heap.size 5 1 bO a (((e.drop d).take a).map bv)/\VB l w wr) (λ_ _ m _=>t -(intOf m).toNat)
 case atStart=>exact ⟨0,m,zAp _,rfl,rfl,b2,ki _ _ _ _,bd⟩
 case round=>
  obtain ⟨a,row,S,rfl,rfl,ab,U,C⟩:=hrel;by_cases c0:a < t
  .obtain ⟨g,a8⟩:∃g,e[d+a]?=some g:=⟨_,zAa (by rw [b0.out];omega)⟩;obtain ⟨X,ac⟩:=ba (d+a+1) oM;obtain ⟨ad,ae⟩:=b7 X row (d+a) g ac ab a8;obtain ⟨aX,af⟩:∃aX,aX=g.toNat+1:=⟨_,rfl⟩;rw [<-af] at ad ae;have aJ:((e.drop d).take (a+1)).map bv=((e.drop d).take a).map bv++ [bv g]:=(by rw [zAv,zBt,a8,zAz];rfl);have a5:=C.1.d ak dC dC;have bf:=a5.cell 0;have bF:=a5.lt;have c2:=C.1.size;have aS:=ar.b C.1;obtain ⟨au,bc,ao,ap,an,aq,b5,bb⟩:=hqq8 aS af ad ae U C aJ ac;clear ac ad ae U C aJ a5 aS ab a8 af;go_wp2_with fail;refine (sN au ao ap ai (by rw [N.out];omega)).mono ?_;rintro j bR ⟨rfl,a4⟩;go_wp2_with fail;refine (yG bc bR).mono ?_;rintro j z ⟨rfl,ay⟩;have E:Below wr.heap.size wr z:=a4.trans (ay.mono a4.size);have J:=(kc (F:=λb=>l<=b) E).1.own an dC dC;have W:=aq.below E;have a7:=W.1.d ak dC dC;have aD:∀b,u8.ownBlock=some b->b < z.heap.size:=λb H=>(J.lt b H).2;have aC:∀b,u8.ownBlock=some b->w.heap.size<=b:=λb H=>(J.lt b H).1;have aK:¬u8.ownBlock=some gl:=λj=>bC J a7 dC j.symm;have bw:=W.1.size;obtain ⟨b8,O,b1,b3,al,b6⟩:=hqq6 J W a7 aD aC aK;clear a4 ay E J W a7 aD aC aK bf bF an aq au;go_wp2_with fail;refine wp_region_any kR<|cC (pJ:=(λr q=>q.ownsRow w.heap.size 5 1 r (a+1) (((e.drop d).take a).map bv++ [bv g]))) l 10 [52,53,54,55,56,57,58,59,60,61] (λb=>u8.ownBlock=some b) 3 [3] [is (u8),is (bv g),λr q=>∃y,r=.slice (some ⟨y,0,none⟩) 1 1/\Bk q y 5 #[bv g]/\u8.ownBlock≠some y,cO,is gl,is gl,is gl,is gk,is (row:Int),is (X:Int)] _ rfl dC kR kR kR (b8) (λw1 q A _ a=>a.1.own A dC dC) (λ_ _ _ A a=>a.1.own A dC dC) (by repeat' (first | exact jN _ _ | exact lE _ | exact λ_ _ _ ⟨y,Z,a0,Q⟩ a=>⟨y,Z,a.1.d a0 dC dC Q,Q⟩|(refine zAe.2 ⟨?_,?_⟩)|(intro o aM;cases aM))) ?_ ?_
   .refine bB<|pH3 8 (u8)<|pH3 10 (bv g)<|sC3 (λ_ v c _ _ _ _ k _ _ _ n=>?_) ?_
    .replace c:VFB l (λb=>u8.ownBlock=some b) z v:=fD c;have av:_=_:=k 1 53 kR rfl;go_simp;exact n _ _ (aI (vR.alloc _)) ⟨_,rfl,kd _ _ _,λA=>by have:=(b3 _ A);have:=c.1.size;omega⟩
    refine sC3 (λG v c bm _ _ _ k _ _ bn n=>?_) ?_
    .replace c:VFB l (λb=>u8.ownBlock=some b) z v:=fD c;have bt:=bm rfl;have bh:_=_:=k 0 52 kR rfl;have bN:(λr q=>∃y,r=.slice (some ⟨y,0,none⟩) 1 1/\Bk q y 5 #[bv g]/\u8.ownBlock≠some y) (G (.tmp 54)) v:=k 2 54 kR rfl;obtain ⟨bj,av,bo,c1⟩:=bN;subst bn;have bz:=c.1.size;refine fK v (.tmp 52) (.tmp 54) _ rfl w.heap.size 5 bE (.int .u8 0) 1 1 underlying22 bq ag bA bD rfl dC u8 a _ bh bt v.heap.size (some ⟨bj,0,none⟩) 1 1 [bv g] av (aGt bo) (by simp [Value.oneCell',bv]) zx oM (zAk bw bz) ?_;intro bP M bs s bX;refine n _ _ (lC ⟨VisF.O ⟨s.os,s.tape,s.output,s.size,λa S aa=>s.block a S (λj=>aa j.symm)⟩,⟨s.os,s.tape,s.output,s.size,λa S aa=>s.block a S (λj=>aa (.inl j.symm))⟩⟩) bs
    refine pH3 0 (.pointer (some gl))<|pV3 4 56<|pV3 5 57<|sC3 (λ_ v c _ _ _ _ k _ _ _ n=>?_) ?_
    .replace c:VFB l (λb=>u8.ownBlock=some b) z v:=fD c;have bU:_=_:=k 6 58 kR rfl;have E:=c.1.d b1 dC dC b6;have bS:=E.cell 0;have c4:=E.lt;go_simp;exact n _ _ (aI vR) rfl
    refine pH3 9 (.int .i64 row)<|sC3 (λ_ v c _ _ R _ k _ _ _ n=>?_) ?_
    .replace c:VFB l (λb=>u8.ownBlock=some b) z v:=fD c;have bV:_=_:=k 7 59 kR rfl;have bW:_=_:=k 8 60 kR rfl;go_simp;have L:=(VFB.trans (VFB.i O) c).y (λb H R=>by have:=(al b R);omega);refine (tM (ar.b L.1) ao ap ai (by rw [N.out];omega) (aj.G L aw aj.pos) aw).mono ?_;rintro j c7 ⟨rfl,bx⟩;exact n _ _ (aI bx) rfl
    exact aB
   .intro G M x c k ax;replace c:VFB l (λb=>u8.ownBlock=some b) z M:=fD c;have ah:(λr q=>q.ownsRow w.heap.size 5 1 r (a+1) (((e.drop d).take a).map bv++ [bv g])) (G (.tmp 55)) M:=k 3 55 dC rfl;have bi:G (.tmp 61)=.int .i64 X:=k 9 61 dC rfl;obtain ⟨bQ,aW⟩:=ax 3 dC;have aV:(λr q=>q.ownsRow w.heap.size 5 1 r (a+1) (((e.drop d).take a).map bv++ [bv g])) bQ M:=aW;clear aW ax;simp only [zqq];rw [bi];clear k;have L:=(VFB.trans (VFB.i O) c).y (λb H R=>by have:=(al b R);omega);change wpAny prog Region.Mode.any _ _ (2+x) (bT 10 12) _ M;rw [show 2+x=x+1+1 by omega];generalize G (.tmp 55)=bP at ah⊢;obtain ⟨b9,be⟩:=hqq2 ah L;clear ah L c aV;refine aY (f:=x+1) (i:=10) kR ?_;refine bJ rfl rfl ?_;generalize n:wpAny prog _ _ _ (x+1) _=K5;go_simp;subst n;refine aY (f:=x) (i:=11) kR ?_;refine bJ rfl rfl ?_;generalize n:wpAny prog _ _ _ x _=K5;go_simp;subst n;refine bG kR ?_;go_wp2_with fail;go_roundw
    case rel=>exact ⟨a+1,X,by omega,by go_num,by first | rfl | trivial,bb,by rw [b5.out];exact b9,be⟩
    case measure=>exact zr
  .obtain rfl:a=t:=oM;obtain ⟨aZ,bg,rfl,aE⟩:=aR U;obtain ⟨b4,O⟩:=hqq2 aE C;clear U aE C ab;go_wp2_with fail;go_ret2;exact ⟨aZ,bg,rfl,b4,O⟩
def Made.lf {w w' m B own own' a f c e d g} (b:Made w B a f d c e g) (s:LF m w w' own own') (q:a≠223) (r:a≠181) (hB:∀i,B<=i->own i=0):Made w' B a f d c e g:=by
 have k:w'.ownsRow B a f (.slice d c e) c g:=by refine ⟨b.own.1,?_⟩;rcases b.own.2 with t |⟨j,n,o,u,l,v,x⟩;exact .inl t;exact .inr ⟨j,n,o,u,l,s.b.d v q r (λp=>p (hB j l)),x⟩
 exact ⟨k,Rd.s k,b.cap,b.max⟩
def aKK {w b g a d} (c:Bk w b g a) (e:a.size=d):Rd w w.heap.size 1 (some ⟨b,0,none⟩) d a.toList:=by
 refine ⟨by simp [e],λ_=>⟨_,0,rfl,c.lt,λi j f=>?_⟩⟩;rw [zBi,c.cell];simpa using f
def StDone (w:World) (B:Nat) (own:Nat->Nat) (gs aA rate:Nat) (T:List UInt8) (b:Told) (g:Ending) (w':World):Prop:=
 ∃c e d f own' i,g=.returned (.agg (iD b c e d f))/\StAt w' B own' gs i aA rate T/\LFS B gs w w' own own'/\Made w' w.heap.size 5 1 c b.data.length e (b.data.map bv)/\Made w' w.heap.size 3 1 d b.places.length f (b.places.map nv)/\(∀a,c=some a->own' a.block=0)/\(∀a,d=some a->own' a.block=0)
section
variable {w w1 w' : World} {B gs gl aA rate : Nat} {own own' : Nat -> Nat} {T : List UInt8}
def LFS.put (a:LFS B gs w w1 own own') {p} (c:w.heap.size<=p.block) (hB:B<=p.block) (b):LFS B gs w (w1.setCell p b) own own':=
 ⟨a.H,VisF.put a.b (.inr c) b,a.keep.setCell (.inr c) b⟩
def StAt.put (e:StAt w B own gs gl aA rate T) {p} (f:Ap own gs p.block) (b):StAt (w.setCell p b) B own gs gl aA rate T:=
 e.m (ka (F:=λa=>a=p.block) (ke _ _) (.inl rfl) b) λa c=>by have d:a=p.block:=c;rw [d];exact f
def jW {b i j a} {m l:_} {d g e c} (n:Made w d a 1 c g e l) (o:Bk w b j m) (q:a≠j) (k):Made (w.setCell ⟨b,i,none⟩ k) d a 1 c g e l:=
 wN n λr s f=>f.m (p:=⟨b,i,none⟩) (Bk.ne f o q) k
def mS {u a E F G H b c s d t e k num g j} {q:Exit} (L:q=.ret∨q=.normal) (Q:u.getD 4 undef=.pointer (some a)) (r:Bk w1 a 29 #[E,F,G,H]) (S:StAt w1 B own' gs gl aA rate T) (M:LFS B gs w w1 own own') (U:B<=w.heap.size) (n:w.heap.size<=a) (m:Ap own' gs a) (K:g.length=s) (R:j.length=t) (N:Made w1 w.heap.size 5 1 b s d (g.map bv)) (O:Made w1 w.heap.size 3 1 c t e (j.map nv)) (C:∀l,b=some l->own' l.block=0) (D:∀l,c=some l->own' l.block=0):
 bodyPost prog f7 (StDone w B own gs aA rate T ⟨k,num,g,j⟩) q ⟨u, []⟩ ((((w1.setCell a (.int .i64 k)).setCell ⟨a,1,none⟩ (.int .i64 num)).setCell ⟨a,2,none⟩ (.slice b s d)).setCell ⟨a,3,none⟩ (.slice c t e)):=by
 subst K R;have b1:=r.set 0 (.int .i64 k);have b2:=b1.set 1 (.int .i64 num);have o:=b2.set 2 (.slice b g.length d);have I:=o.set 3 (.slice c j.length e);have hB:B<=a:=oM;have y:=(((S.put (p:=a) m (.int .i64 k)).put (p:=⟨a,1,none⟩) m (.int .i64 num)).put (p:=⟨a,2,none⟩) m (.slice b g.length d)).put (p:=⟨a,3,none⟩) m (.slice c j.length e);have v:=(((M.put (p:=a) n hB (.int .i64 k)).put (p:=⟨a,1,none⟩) n hB (.int .i64 num)).put (p:=⟨a,2,none⟩) n hB (.slice b g.length d)).put (p:=⟨a,3,none⟩) n hB (.slice c j.length e);have z:=jW (i:=3) (jW (i:=2) (jW (i:=1) (jW (i:=0) N r dC (.int .i64 k)) b1 dC (.int .i64 num)) b2 dC (.slice b g.length d)) o dC (.slice c j.length e);have A:=jW (i:=3) (jW (i:=2) (jW (i:=1) (jW (i:=0) O r dC (.int .i64 k)) b1 dC (.int .i64 num)) b2 dC (.slice b g.length d)) o dC (.slice c j.length e);have J:Bk ((((w1.setCell a (.int .i64 k)).setCell ⟨a,1,none⟩ (.int .i64 num)).setCell ⟨a,2,none⟩ (.slice b g.length d)).setCell ⟨a,3,none⟩ (.slice c j.length e)) a 29 (iD ⟨k,num,g,j⟩ b d c e):=by simpa [iD] using I
 have x:=results_cell_row (P:=prog) (fn:=f7) (p:=4) (ty:=29) rfl u _ a 29 (iD ⟨k,num,g,j⟩ b d c e) (0,0) _ Q J underlying29 rfl kR;rcases L with rfl | rfl;exact bodyPost_ret x rfl ⟨b,d,c,e,own',gl,rfl,y,v,z,A,C,D⟩;exact bodyPost_end x rfl ⟨b,d,c,e,own',gl,rfl,y,v,z,A,C,D⟩
end
structure DoW (w W:World) (B:Nat) (own:Nat->Nat) (gs gl aA rate:Nat) (t:List UInt8) (kind p n:Int) (A:Option Addr) (m c:Nat):Prop where
 low:Below w.heap.size w W
 box:Bk W w.heap.size 32 #[(kind:Int),(p:Int),(n:Int),.slice A m c]
 wQ:Bk W (w.heap.size+1) 29 #[o0,o0,(),()]
 st:StAt W B own gs gl aA rate t
 ap:Ap own gs (w.heap.size+1)
 sz:W.heap.size=w.heap.size+2
 fr:∀b,w.heap.size<=b->own b=0
 bs:B<=w.heap.size
def DoW.mk' {w B own gs gl aA rate k} (e i g b f c) (a:StAt w B own gs gl aA rate k):
 DoW w ((w.alloc (.cells #[(e:Int),(i:Int),(g:Int),.slice b f c] 32)).alloc (.cells #[o0,o0,(),()] 29)) B own gs gl aA rate k e i g b f c:=by
 have d:Below w.heap.size w ((w.alloc (.cells #[(e:Int),(i:Int),(g:Int),.slice b f c] 32)).alloc (.cells #[o0,o0,(),()] 29)):=(bR.alloc nL _).alloc zs _;have j:=kd (w.alloc (.cells #[(e:Int),(i:Int),(g:Int),.slice b f c] 32)) 29 #[o0,o0,(),()];rw [sZ0] at j;exact ⟨d,(kd w _ _).alloc _,j,a.G (kb d),⟨a.fresh oM,by have:=a.a.lt;omega⟩,by rw [sZ0,sZ0],λl d=>a.fresh d,a.size⟩
def fO {B own gs gl aA rate s} (m) {c} (l k f j g n) {w} (p:StAt w B own gs gl aA rate s) (x:c=1∨c=2∨c=3) (r:∀d,StAt d B own gs gl aA rate s->LFS B gs w d own own->Calls prog 16 #[gs,.agg #[(c:Int),(l:Int),(k:Int),.slice f j g]] d λo w'=>o=.returned (.int .i64 n)/\∃own',StAt w' B own' gs gl aA rate m/\LFS B gs d w' own own'):
 Calls prog 7 #[gs,bK c l k f j g] w (StDone w B own gs aA rate m ⟨n,0, [], []⟩):=by
 have a:=DoW.mk' c l k f j g p;have q:=r _ a.st (LFS.j B gs own a.low);have A:=a.box.cell 0;have C:=a.box.cell 1;have D:=a.box.cell 2;have E:=a.box.cell 3;clear r p;unfold bK;rcases x with rfl | rfl | rfl
 all_goals
  go_enter func7,ntmps7;go_wp2_with fail;refine q.mono ?_;rintro o w1 ⟨rfl,own',z,e⟩;have b:=e.d a.wQ a.ap.x a.ap.ne dC dC;have v:=a.ap.step e a.wQ.lt;have y:=(LFS.j B gs own a.low).trans e;have t:=a.bs;have J:=b.cell 0;have K:=b.cell 1;have L:=b.cell 2;have M:=b.cell 3;have F:=b.frozen 0;have G:=b.frozen 1;have H:=b.frozen 2;have I:=b.frozen 3;clear e q a;go_wp2_with fail;exact mS (.inl rfl) rfl b z y t oM v rfl rfl (aV _ _ _) (aV _ _ _) (λu i=>by cases i) (λu i=>by cases i)
def aA7 {B own gs gl aA rate e} (y x g v i) {w} (n:StAt w B own gs gl aA rate e):
 Calls prog 7 #[gs,bK 8 y x g v i] w (StDone w B own gs aA rate e ⟨0,0, [], []⟩):=by
 obtain ⟨d,f⟩:∃d,IsSuf (aG e) d:=by obtain ⟨d,gk,N,U,f,_⟩:=n.tp;exact ⟨d,f⟩
 have a:=DoW.mk' 8 y x g v i n;have l:=tP a.st f;unfold gJ at l;obtain ⟨S,p⟩:=eqx ((fC (aH (aG e) d) d aA rate e.length).length);rw [p] at l;have r:=λg i w1 (c:StAt w1 B own gs gl aA rate e)=>aA4 g i c f c.n127 c.r1 c.r2 c.len c.max p;have H:=a.box.cell 0;clear n p f;unfold bK;go_enter func7,ntmps7;go_wp2_with fail;refine l.mono ?_;rintro D w1 ⟨z,C,rfl,k,m⟩;have u:=a.st.G m.1;have t:=(LFS.j B gs own a.low).trans (LFS.i gs own m);have q:=m.1.d a.wQ dC dC;have s:=r z C w1 u k.rd k.cap k.max;clear u k m l r;go_wp2_with fail;refine s.mono ?_;rintro D V ⟨rfl,own',M,G,j⟩;have b:=j.d q a.ap.x a.ap.ne dC dC;have E:=a.ap.step j q.lt;have F:=t.trans j;have O:=b.cell 0;have P:=b.cell 1;have Q:=b.cell 2;have R:=b.cell 3;have I:=b.frozen 0;have J:=b.frozen 1;have K:=b.frozen 2;have L:=b.frozen 3;clear j s t q;go_wp2_with fail;exact mS (.inl rfl) rfl b G F a.bs oM E rfl rfl (aV _ _ _) (aV _ _ _) (λA o=>by cases o) (λA o=>by cases o)
def oT {B own gs gl aA rate G} (r u y E z) {w} (A:StAt w B own gs gl aA rate G) (l n nd) (Z:l.length=nd) (M:∀m,StAt m B own gs gl aA rate G->LFS B gs w m own own->Calls prog 18 #[gl,(r:Int),(u:Int)] m λJ w'=>∃a b,J=.returned (.tuple #[.slice a nd b,(n:Int)])/\Made w' m.heap.size 5 1 a nd b (l.map bv)/\VB B m w'):
 Calls prog 7 #[gs,bK 5 r u y E z] w (StDone w B own gs aA rate G ⟨n,0,l, []⟩):=by
 have i:=DoW.mk' 5 r u y E z A;have x:=λe (t:VB B _ e)=>M e (i.st.G t.1) ((LFS.j B gs own i.low).trans (LFS.i gs own t));have ak:=A.a.lt;have O:=i.box.cell 0;have P:=i.box.cell 1;have Q:=i.box.cell 2;have a7:=i.st.a.cell 0;have H:=x;clear x A M;unfold bK;go_enter func7,ntmps7;go_wp2_with fail;generalize (w.alloc (.cells #[(5:Int),(r:Int),(u:Int),.slice y E z] 32)).alloc (.cells #[o0,o0,(),()] 29)=m at*
 clear O P Q a7;refine wp_region_any kR<|aQ (S:=(VB B)) (V:=(Vs [is gs,is gs,is gs,is gl,is (.pointer (some ⟨w.heap.size,1,none⟩)),is (.int .i64 r),is (.pointer (some ⟨w.heap.size,2,none⟩)),is (.int .i64 u),λf g=>∃a b,f=.tuple #[.slice a nd b,(n:Int)]/\Made g w.heap.size 5 1 a nd b (l.map bv),λf g=>∃a b,f=.tuple #[.slice a nd b,(n:Int)]/\Made g w.heap.size 5 1 a nd b (l.map bv),λf g=>∃a b,f=.slice a nd b/\Made g w.heap.size 5 1 a nd b (l.map bv),is (.int .i64 n),λf g=>∃a b,f=.slice a nd b/\Made g w.heap.size 5 1 a nd b (l.map bv),is (.int .i64 n)])) [34,35,36,37,38,39,40,41,42,33,43,44,5,6] _ rfl kR vR (λ_ _=>VisK.trans) (dI (by repeat' (first | exact jN _ _ | exact lE _ | exact λ_ _ _ ⟨a,b,U,W⟩ t=>⟨a,b,U,t.1.made W dC dC⟩|(refine zAe.2 ⟨?_,?_⟩)|(intro r x;cases x)))) ?_ ?_
 .refine aL<|pH 0 (.pointer (some gs))<|pV 0 34<|pV 1 35<|sC (λ_ e c _ _ _ d _ _ _ j=>?_) ?_
  .have a8:_=_:=d 2 36 kR rfl;replace c:(VB B) m e:=bD c;have X:=c.1.d i.st.a dC dC;have I:=X.cell 0;go_simp;exact j _ _ vR rfl
  refine pH 3 (.pointer (some w.heap.size))<|sC (λ_ e c _ _ _ d _ _ _ j=>?_) ?_
  .have aa:_=_:=d 4 38 kR rfl;replace c:(VB B) m e:=bD c;have D:=c.1.d i.box dC dC;have I:=D.cell 1;go_simp;exact j _ _ vR rfl
  refine pH 3 (.pointer (some w.heap.size))<|sC (λ_ e c _ _ _ d _ _ _ j=>?_) ?_
  .have ac:_=_:=d 6 40 kR rfl;replace c:(VB B) m e:=bD c;have D:=c.1.d i.box dC dC;have I:=D.cell 2;go_simp;exact j _ _ vR rfl
  refine sC (λ_ e c _ _ _ d _ _ _ j=>?_) ?_
  .have a9:_=_:=d 3 37 kR rfl;have ab:_=_:=d 5 39 kR rfl;have ad:_=_:=d 7 41 kR rfl;replace c:(VB B) m e:=bD c;have a2:=c.1.size;go_simp;refine (H e c).mono ?_;rintro J aq ⟨a,b,rfl,v,a1⟩;exact j _ _ a1 ⟨a,b,rfl,⟨cG v.own (zAk i.low.size a2),v.rd,v.cap,v.max⟩⟩
  refine sC (λo e _ _ _ _ d _ _ _ j=>?_) ?_
  .have a4:(λf g=>∃a b,f=.tuple #[.slice a nd b,(n:Int)]/\Made g w.heap.size 5 1 a nd b (l.map bv)) (o (.tmp 42)) e:=d 8 42 kR rfl;obtain ⟨a,b,ae,p⟩:=a4;go_simp;exact j _ _ vR ⟨a,b,rfl,p⟩
  refine sC (λo e _ _ _ _ d _ _ _ j=>?_) ?_
  .have F:(λf g=>∃a b,f=.tuple #[.slice a nd b,(n:Int)]/\Made g w.heap.size 5 1 a nd b (l.map bv)) (o (.tmp 33)) e:=d 9 33 kR rfl;obtain ⟨a,b,R,p⟩:=F;go_simp;exact j _ _ vR ⟨a,b,rfl,p⟩
  refine sC (λo e _ _ _ _ d _ _ _ j=>?_) ?_
  .have F:(λf g=>∃a b,f=.tuple #[.slice a nd b,(n:Int)]/\Made g w.heap.size 5 1 a nd b (l.map bv)) (o (.tmp 33)) e:=d 9 33 kR rfl;obtain ⟨a,b,R,p⟩:=F;go_simp;exact j _ _ vR rfl
  refine sC (λo e _ _ _ _ d _ _ _ j=>?_) ?_
  .have a5:(λf g=>∃a b,f=.slice a nd b/\Made g w.heap.size 5 1 a nd b (l.map bv)) (o (.tmp 43)) e:=d 10 43 kR rfl;obtain ⟨a,b,af,p⟩:=a5;go_simp;exact j _ _ vR ⟨a,b,rfl,p⟩
  refine pV 11 44 ?_;exact aB
 .intro o N c d;replace c:(VB B) m N:=bD c;have a6:(λf g=>∃a b,f=.slice a nd b/\Made g w.heap.size 5 1 a nd b (l.map bv)) (o (.tmp 5)) N:=d 12 5 rfl;have L:o (.tmp 6)=.int .i64 n:=d 13 6 rfl;simp only [zqq];rw [L];clear d;obtain ⟨a,b,K,p⟩:=a6;rw [K];clear K L;have q:=c.1.d i.wQ dC dC;have Y:=(LFS.j B gs own i.low).trans (LFS.i gs own c);have a0:=i.st.G c.1;have a3:∀s,a=some s->own s.block=0:=λs C=>by subst C;exact i.fr _ (p.own.lt (k:=s.block) rfl).1
  have al:=q.cell 0;have am:=q.cell 1;have an:=q.cell 2;have ao:=q.cell 3;have ag:=q.frozen 0;have ah:=q.frozen 1;have ai:=q.frozen 2;have aj:=q.frozen 3;clear c H;go_wp2_with fail;exact mS (.inl rfl) rfl q a0 Y i.bs oM i.ap Z rfl p (aV _ _ _) a3 (λs C=>by cases C)
def sT {B own gs gl aA rate o p} (s x) {k g} (m) {w} (q:StAt w B own gs gl aA rate o) (C:ArgZ w B own gs k g p) (aw:g<=1000000):
 Calls prog 7 #[gs,bK 6 s x k g m] w (StDone w B own gs aA rate o ⟨0,((dY o p).length:Int), [], []⟩):=by
 have l:=DoW.mk' 6 s x k g m q;have a0:p.length=g:=by simpa using C.1.1
 have I:=C.b l.low;have av:=q.a.lt;have K:∀b e,VB B ((w.alloc (.cells #[(6:Int),(s:Int),(x:Int),.slice k g m] 32)).alloc (.cells #[o0,o0,(),()] 29)) b->Bk b e 22 #[.slice k g m]->Calls prog 19 #[gl,.slice (some ⟨e,0,none⟩) 1 1] b λG w'=>G=.returned (.int .i64 ((dY o p).length:Int))/\VB B b w':=λb e M a1=>by
  have a8:TxtAt b B gl o:=by obtain ⟨ac,gk,au,aD,ae,af,aG,aH,ag⟩:=(l.st.G M.1).tp;exact ⟨ac,ae,af.ai,ag⟩
  have Z:=(I.step (LFS.i gs own M)).1;have:=aDz (Bw:=B) (gl:=gl) (t:=o) (A0:=(some ⟨e,0,none⟩)) (m0:=1) (B:=b.heap.size) (ss:=[(⟨k,g,m,p⟩:Sl)]) (w:=b) 1 p (by simp [iV]) a8 (aKK a1 rfl) (λaE L=>by simp at L;subst L;exact Z) nL oM oM;rw [<-aGD,uH] at this;exact this
 obtain ⟨z,N⟩:=eqx ((dY o p).length);rw [N] at K⊢;have S:=l.box.cell 0;clear q C I a0 N;unfold bK;go_enter func7,ntmps7;go_wp2_with fail;generalize (w.alloc (.cells #[(6:Int),(s:Int),(x:Int),.slice k g m] 32)).alloc (.cells #[o0,o0,(),()] 29)=W at*
 clear S;refine wp_region_any kR<|cC (pre:=(λ_=>True)) (pJ:=(λu _=>u=.agg #[o0,(z:Int),(),()])) B 9 [50,51,52,53,54,55,56,57,58] (λ_=>False) 8 [] [is gs,is gs,is gs,is gl,is (.pointer (some ⟨w.heap.size,3,none⟩)),is (.slice k g m),λF E=>∃e,F=.slice (some ⟨e,0,none⟩) 1 1/\Bk E e 22 #[.slice k g m],is (z:Int),cO] _ rfl dC kR kR kR (trivial) (λ_ _ _ _ _=>trivial) (λ_ _ _ q _=>q) (by repeat' (first | exact jN _ _ | exact lE _ | exact λ_ _ _ ⟨e,X,Y⟩ aa=>⟨e,X,aa.1.d Y dC dC (λc=>c)⟩|(refine zAe.2 ⟨?_,?_⟩)|(intro s a6;cases a6))) ?_ ?_
 .refine bB<|pH3 0 (.pointer (some gs))<|pV3 0 50<|pV3 1 51<|sC3 (λ_ b a _ _ _ _ d _ _ _ j=>?_) ?_
  .replace a:VFB B (λ_=>False) W b:=fD a;have ah:_=_:=d 2 52 kR rfl;have r:=a.y (λ_ _ c=>c);have a3:=r.1.d l.st.a dC dC;have U:=a3.cell 0;go_simp;exact j _ _ (aI vR) rfl
  refine pH3 3 (.pointer (some w.heap.size))<|sC3 (λ_ b a _ _ _ _ d _ _ _ j=>?_) ?_
  .replace a:VFB B (λ_=>False) W b:=fD a;have aj:_=_:=d 4 54 kR rfl;have r:=a.y (λ_ _ c=>c);have a4:=r.1.d l.box dC dC;have U:=a4.cell 3;go_simp;exact j _ _ (aI vR) rfl
  refine sC3 (λ_ _ _ _ _ _ _ d _ _ _ j=>?_) ?_
  .have ak:_=_:=d 5 55 kR rfl;go_simp;exact j _ _ (aI (vR.alloc _)) ⟨_,rfl,kd _ _ _⟩
  refine sC3 (λA b a _ _ _ _ d _ _ _ j=>?_) ?_
  .replace a:VFB B (λ_=>False) W b:=fD a;have ai:_=_:=d 3 53 kR rfl;have ab:(λF E=>∃e,F=.slice (some ⟨e,0,none⟩) 1 1/\Bk E e 22 #[.slice k g m]) (A (.tmp 56)) b:=d 6 56 kR rfl;have r:=a.y (λ_ _ c=>c);obtain ⟨V,al,a2⟩:=ab;go_simp;refine (K b V r a2).mono ?_;rintro G aF ⟨rfl,a9⟩;exact j _ _ (aI a9) rfl
  refine sC3 (λ_ _ _ _ _ _ _ d _ _ _ j=>?_) ?_
  .have am:_=_:=d 7 57 kR rfl;go_simp;exact j _ _ (lC (VFB.i vR)) rfl
  exact aB
 .intro A y c a d J;replace a:VFB B (λ_=>False) W y:=fD a;have O:(λu _=>u=.agg #[o0,(z:Int),(),()]) (A (.tmp 58)) y:=d 8 58 dC rfl;obtain ⟨ad,Q⟩:=J 8 dC;have P:(λu _=>u=.agg #[o0,(z:Int),(),()]) ad y:=Q;clear Q J;simp only [zqq];clear d;have H:=O;rw [H];have v:=a.y (λ_ _ c=>c);clear P O H a;have n:=v.1.d l.wQ dC dC;have a7:=l.st.G v.1;have a5:=(LFS.j B gs own l.low).trans (LFS.i gs own v);have ax:=n.cell 0;have ay:=n.cell 1;have az:=n.cell 2;have aC:=n.cell 3;have an:=n.frozen 0;have ao:=n.frozen 1;have aq:=n.frozen 2;have ar:=n.frozen 3;clear v;change wpAny prog Region.Mode.any _ _ (1+c) (bT 9 10) _ y;rw [zCt 1 c];refine aY (f:=c) (i:=9) kR ?_;refine bJ rfl rfl ?_;generalize j:wpAny prog _ _ _ c _=K5;go_simp;subst j;refine bG kR ?_;go_wp2_with fail;exact mS (.inl rfl) rfl n a7 a5 l.bs oM l.ap rfl rfl (aV _ _ _) (aV _ _ _) (λR D=>by cases D) (λR D=>by cases D)
def qM {B own gs gl aA rate n m} (z F) {l i} (o) {w} (G:StAt w B own gs gl aA rate n) (J:ArgZ w B own gs l i m) (au:i<=1000000):
 Calls prog 7 #[gs,bK 7 z F l i o] w (StDone w B own gs aA rate n ⟨0,((dY n m).length:Int), [],dY n m⟩):=by
 have g:=DoW.mk' 7 z F l i o G;have a3:m.length=i:=by simpa using J.1.1
 have P:=J.b g.low;have ar:=G.a.lt;have A:∀d f,VB B ((w.alloc (.cells #[(7:Int),(z:Int),(F:Int),.slice l i o] 32)).alloc (.cells #[o0,o0,(),()] 29)) d->Bk d f 22 #[.slice l i o]->Calls prog 20 #[gl,.slice (some ⟨f,0,none⟩) 1 1] d λN w'=>∃a b,N=.returned (.slice a (dY n m).length b)/\Made w' d.heap.size 3 1 a (dY n m).length b ((dY n m).map nv)/\VB B d w':=λd f U a4=>by have a2:=(P.step (LFS.i gs own U)).1;have:=aNJ (Bw:=B) (gl:=gl) (rate:=rate) (t:=n) (A0:=(some ⟨f,0,none⟩)) (m0:=1) (B:=d.heap.size) (ss:=[(⟨l,i,o,m⟩:Sl)]) (w:=d) 1 m (by simp [iV]) (g.st.G U.1).tp (aKK a4 rfl) (λaz R=>by simp at R;subst R;exact a2) nL oM oM;unfold aEb at this;rw [uH] at this;exact this
 obtain ⟨v,Q⟩:=eqx (dY n m);rw [Q] at A⊢;obtain ⟨r,y⟩:=eqx v.length;rw [y] at A⊢;have Z:=g.box.cell 0;have Y:=y;clear G J P a3 Q y;unfold bK;go_enter func7,ntmps7;go_wp2_with fail;generalize (w.alloc (.cells #[(7:Int),(z:Int),(F:Int),.slice l i o] 32)).alloc (.cells #[o0,o0,(),()] 29)=W at*
 clear Z;refine wp_region_any kR<|aQ (S:=(VB B)) (V:=(Vs [is gs,is gs,is gs,is gl,is (.pointer (some ⟨w.heap.size,3,none⟩)),is (.slice l i o),λL j=>∃f,L=.slice (some ⟨f,0,none⟩) 1 1/\Bk j f 22 #[.slice l i o],λu j=>∃a b,u=.slice a r b/\Made j w.heap.size 3 1 a r b (v.map nv),λu j=>∃a b,u=.slice a r b/\Made j w.heap.size 3 1 a r b (v.map nv)])) [61,62,63,64,65,66,67,68,7] _ rfl kR vR (λ_ _=>VisK.trans) (dI (by repeat' (first | exact jN _ _ | exact lE _ | exact λ_ _ _ ⟨f,H,I⟩ E=>⟨f,H,E.1.d I dC dC⟩| exact λ_ _ _ ⟨a,b,H,I⟩ E=>⟨a,b,H,E.1.made I dC dC⟩|(refine zAe.2 ⟨?_,?_⟩)|(intro z a9;cases a9)))) ?_ ?_
 .refine aL<|pH 0 (.pointer (some gs))<|pV 0 61<|pV 1 62<|sC (λ_ d c _ _ _ e _ _ _ p=>?_) ?_
  .have ag:_=_:=e 2 63 kR rfl;replace c:(VB B) W d:=bD c;have a6:=c.1.d g.st.a dC dC;have a0:=a6.cell 0;go_simp;exact p _ _ vR rfl
  refine pH 3 (.pointer (some w.heap.size))<|sC (λ_ d c _ _ _ e _ _ _ p=>?_) ?_
  .have ai:_=_:=e 4 65 kR rfl;replace c:(VB B) W d:=bD c;have a7:=c.1.d g.box dC dC;have a0:=a7.cell 3;go_simp;exact p _ _ vR rfl
  refine sC (λ_ _ _ _ _ _ e _ _ _ p=>?_) ?_
  .have aj:_=_:=e 5 66 kR rfl;go_simp;exact p _ _ (vR.alloc _) ⟨_,rfl,kd _ _ _⟩
  refine sC (λx d c _ _ _ e _ _ _ p=>?_) ?_
  .have ah:_=_:=e 3 64 kR rfl;have ad:(λL j=>∃f,L=.slice (some ⟨f,0,none⟩) 1 1/\Bk j f 22 #[.slice l i o]) (x (.tmp 67)) d:=e 6 67 kR rfl;replace c:(VB B) W d:=bD c;obtain ⟨a1,ak,a5⟩:=ad;have ac:=c.1.size;go_simp;refine (A d a1 c a5).mono ?_;rintro N aC ⟨a,b,rfl,C,ab⟩;exact p _ _ ab ⟨a,b,rfl,⟨cG C.own (zAk g.low.size ac),C.rd,C.cap,C.max⟩⟩
  refine sC (λx d _ _ _ _ e _ _ _ p=>?_) ?_
  .have ae:(λu j=>∃a b,u=.slice a r b/\Made j w.heap.size 3 1 a r b (v.map nv)) (x (.tmp 68)) d:=e 7 68 kR rfl;obtain ⟨a,b,al,D⟩:=ae;go_simp;exact p _ _ vR ⟨a,b,rfl,D⟩
  exact aB
 .intro x X c e;replace c:(VB B) W X:=bD c;have af:(λu j=>∃a b,u=.slice a r b/\Made j w.heap.size 3 1 a r b (v.map nv)) (x (.tmp 7)) X:=e 8 7 rfl;simp only [zqq];clear e;obtain ⟨a,b,O,D⟩:=af;rw [O];clear O;have q:=c.1.d g.wQ dC dC;have a8:=(LFS.j B gs own g.low).trans (LFS.i gs own c);have aa:=g.st.G c.1;have y:∀s,a=some s->own s.block=0:=λs K=>by subst K;have:=(D.own.lt (k:=s.block) rfl).1;by_cases M:own s.block=0;exact M;exact absurd (g.fr s.block this) M
  have av:=q.cell 0;have aw:=q.cell 1;have ax:=q.cell 2;have ay:=q.cell 3;have am:=q.frozen 0;have an:=q.frozen 1;have ao:=q.frozen 2;have aq:=q.frozen 3;clear c A;go_wp2_with fail;exact mS (.inl rfl) rfl q aa a8 g.bs oM g.ap rfl Y (aV _ _ _) D (λs K=>by cases K) y
end Go.Proofs.YtlghmcogeipojaaGreatDoor
