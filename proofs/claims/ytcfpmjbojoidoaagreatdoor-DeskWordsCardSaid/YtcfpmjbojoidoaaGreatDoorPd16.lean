/- Lemmas of the walk. Conditions: each its own. -/
import Derived.Test.YtcfpmjbojoidoaaGreatDoorPd8
import Derived.Test.YtcfpmjbojoidoaaGreatDoorPd12
import Derived.Test.YtcfpmjbojoidoaaGreatDoorPd13
import Derived.Test.YtcfpmjbojoidoaaGreatDoorProg
import Derived.Test.YtcfpmjbojoidoaaGreatDoorShl
import Derived.Test.YtcfpmjbojoidoaaGreatDoorSht
set_option linter.all false
set_option maxRecDepth 100000
set_option maxHeartbeats 4000000
open Go.Proofs.Tryz
namespace Go.Proofs.YtcfpmjbojoidoaaGreatDoor
section
section
variable {S R : List Nat} {N : Nat}
def aH1 (k:EndOk S N) {a c:Nat} (o:a < N) (m:0 < c):EndOk (S.set a c) N:=by
 obtain ⟨g,i,j⟩:=k;have f:∀b,(S.set a c).getD b 0=if a=b/\b < S.length then c else S.getD b 0:=fun b=>by
  rw [zAb,zBm,zAb];by_cases d:a=b
  · subst d;by_cases e:a < S.length
    · simp [e]
    · simp [e]
  · simp [d]
 refine ⟨by rw [zAt,g],?_,fun n l=>?_⟩
 · rw [f,zBw oM,i]
 rw [f];split;exact m;exact j n l
def aGt (S:List Nat) {a s:Nat} (e:a < S.length) (b:Nat):(S.set a s).getD b 0=if b=a then s else S.getD b 0:=by
 rw [zAb,zBm,zAb];by_cases c:b=a
 · subst c;simp [e]
 · rw [zBw (fun d=>c d.symm),zBw c]
def KS (S R:List Nat) (c b a:Nat):Bool:=decide (S.getD a 0 < b∨(S.getD a 0=b/\ro R (a+1) < ro R (c+1)))
def aBJ (L:IsSuf S R) (m:EndOk S (N+1)) {c i:Nat} (Y:c<=N) (T:0 < i) {row:Nat} (Z:row<=N+1)
 (u:∀b,b<=N+1->b≠c->b+1≠c->(aS (ro R b) (ro R c) < row↔KS S R c i b=true))
 (E:∀b,b+1=c->(aS (ro R b) (ro R c) < row->S.getD b 0<=i)/\(row<=aS (ro R b) (ro R c)->i<=S.getD b 0)):
 Near (S.set c i) (aM (aD R (ro R c)) row c) (N+1) c:=by
 have l:=L.near m;have X:=m.len;have O:=l.nodup;have k:∀a,a<=N+1->a∈R:=fun a d=>l.mem.2 d;have x:=l.len;have C:∀a b,a<=N+1->b<=N+1->a≠b->ro R a≠ro R b:=fun a b d e z p=>z (eE (k a d) (k b e) p);obtain ⟨J,D,r⟩:=tK O (t:=row) (bT (k c oM)) oM;obtain ⟨j,M⟩:∃j,aM (aD R (ro R c)) row c=j:=⟨_,rfl⟩;rw [M] at J D r⊢;have q:∀a b,a<=N+1->b<=N+1->a≠c->b≠c->(ro j a < ro j b↔ro R a < ro R b):=fun a b d e n I=>by rw [r a (k a d) n,r b (k b e) I];have v:=C a c d oM n;have W:=C b c e oM I;unfold inR aS;split <;> split <;> split <;> split <;> omega
 have H:∀a,a<=N+1->a≠c->(ro j a < ro j c↔aS (ro R a) (ro R c) < row):=fun a d n=>by rw [D,r a (k a d) n];unfold inR;split <;> omega
 have G:∀a,a<=N+1->a≠c->(ro j c < ro j a↔¬aS (ro R a) (ro R c) < row):=fun a d n=>by rw [D,r a (k a d) n];unfold inR;split <;> omega
 have w:=aGt S (s:=i) (show c < S.length by omega);refine ⟨aH1 m oM T,J.trans l.perm,fun a b d e B=>?_,fun a b d e z a0 a1=>?_⟩;rw [w,w];by_cases g:a=c;subst g;rw [zBx rfl];by_cases f:b=a;rw [zBx f];exact zAs _;rw [zBw f];have v:=(G b e f).1 B;by_cases o:b+1=a;exact (E b o).2 oM;have:=u b e f o;unfold KS at this;rw [zCa] at this;omega;rw [zBw g];by_cases f:b=c;subst f;rw [zBx rfl];have v:=(H a d g).1 B;by_cases o:a+1=b;exact (E a o).1 v;have:=(u a d g o).1 v;unfold KS at this;rw [zCa] at this;omega;rw [zBw f];exact l.first a b d e ((q a b d e g f).1 B)
 · have y:∀A,A<=N+1->S.getD A 0≠0->A < N+1:=fun A U V=>Nat.lt_of_le_of_ne U fun p=>by subst p;exact V m.last
   unfold rU;rw [w,w];by_cases g:a=c;subst g;have f:b≠a:=fun p=>z p.symm;rw [zBx rfl,zBw f,G b e f,u b e f oM];unfold KS;rw [zCa];by_cases F:S.getD b 0=i;have Q:=y b e oM;rw [q (a+1) (b+1) oM oM oM oM];have:=C (b+1) (a+1) oM oM oM;omega;omega
   · rw [zBw g];by_cases f:b=c
     · subst f;rw [zBx rfl,H a d g,u a d g oM];unfold KS;rw [zCa];by_cases F:S.getD a 0=i
       · have P:=y a d oM;rw [q (a+1) (b+1) oM oM oM oM]
       omega
     · rw [zBw f,q a b d e g f,l.cons a b d e z oM oM];unfold rU;by_cases F:S.getD a 0=S.getD b 0
       · by_cases K:S.getD a 0=0;have a2:a=N+1:=Nat.le_antisymm d (zCr.1 fun x=>by have:=m.pos a x;omega);have a3:b=N+1:=Nat.le_antisymm e (zCr.1 fun x=>by have:=m.pos b x;omega);omega
         · have P:=y a d K;have Q:=y b e oM;rw [q (a+1) (b+1) oM oM oM oM]
       omega
def aI3 (I:IsSuf S R) (U:EndOk S (N+1)) {a s:Nat} (L:a<=N):(∀b,b<=N+1->b≠a->(aS (ro R b) (ro R a) < (aD R (ro R a)).countP (KS S R a s)↔KS S R a s b=true))/\(aD R (ro R a)).countP (KS S R a s)<=N+1:=by
 have f:=I.near U;have a4:=f.nodup;have n:∀d,d<=N+1->d∈R:=fun d o=>f.mem.2 o;obtain ⟨G,t,u,H⟩:=aAu f.perm L;have z:∀d b,d<=N+1->b<=N+1->d≠b->ro R d≠ro R b:=fun d b o q W k=>W (eE (n d o) (n b q) k);have B:∀ {e c:Nat},(aD R (ro R a))[e]?=some c->c<=N+1/\c≠a/\e=aS (ro R c) (ro R a):=fun {e c} g=>by have j:=(H c).1 (zAd g);refine ⟨f.mem.1 j.1,j.2,?_⟩;have K:=u c j.1 j.2;obtain ⟨v,w⟩:=zAc.1 g;obtain ⟨x,y⟩:=zAc.1 K;rcases Nat.lt_trichotomy e (aS (ro R c) (ro R a)) with b | b | b;exact absurd (by rw [w,y]) (zAr.1 t _ _ v x b);exact b;exact absurd (by rw [w,y]) (zAr.1 t _ _ x v b)
 have X:(aD R (ro R a)).Pairwise fun d b=>KS S R a s b=true->KS S R a s d=true:=by
  rw [zAr];intro e r M O a3 m;obtain ⟨c,g⟩:=eqx ((aD R (ro R a))[e]);obtain ⟨i,A⟩:=eqx ((aD R (ro R a))[r]);have Q:(aD R (ro R a))[e]?=some c:=by rw [zAa M,g]
  have T:(aD R (ro R a))[r]?=some i:=by rw [zAa O,A]
  rw [g];rw [A] at m;obtain ⟨C,a0,D⟩:=B Q;obtain ⟨E,a1,F⟩:=B T;have a5:=z c a C oM a0;have a6:=z i a E oM a1;have V:ro R c < ro R i:=by unfold aS at D F;split at D <;> split at F <;> omega
  have Z:c≠i:=fun k=>by subst k;omega
  have P:=(f.cons c i C E Z oM oM).1 V;unfold rU at P;unfold KS at m⊢;rw [zCa] at m⊢;omega
 refine ⟨fun b q Y=>(aAe X _ _ (u b (n b q) Y)).symm,?_⟩;have a2:=zBh (p:=KS S R a s) (l:=aD R (ro R a));have J:=G.length_eq;rw [zCf,f.len] at J;omega
def aI4 (o:IsSuf S R) (g:EndOk S (N+1)) {a b:Nat} (q:a<=N) (v:0 < b):(aD R (ro R a)).countP (KS S R a b)+(if S.getD a 0 < b then 1 else 0)=(aF S R).countP (fun w=>decide (w < b))+(((aD ((aF S R).set (ro R (a+1)) b) (ro R a)).take (aS (ro R (a+1)) (ro R a))).count b+if ro R a < ro R (a+1)/\bF S a=b then 1 else 0):=by
 have d:=o.near g;have A:=d.nodup;have f:∀c,c<=N+1->c∈R:=fun c u=>d.mem.2 u;obtain ⟨l,x,y,z⟩:=aAu d.perm q;have i:=bT (f a oM);have r:ro R a < (aF S R).length:=by rw [bH];exact (zAc.1 i).1
 have t:ro R a≠ro R (a+1):=fun m=>by have:=eE (f a oM) (f (a+1) oM) m;omega
 have p:(aF S R).getD (ro R a) 0=bF S a:=by unfold aF;rw [zAb,zAf,i];rfl
 have k:=aGe (s:=b) r t;rw [p] at k;rw [k];have j:=pQ g d.perm v (ro R (a+1));unfold bZ at j;rw [j];unfold aAo;rw [<-d.perm.countP_eq,<-l.countP_eq,zBn];have n:(aD R (ro R a)).countP (fun c=>decide (S.getD c 0 < b∨(S.getD c 0=b/\ro R (c+1) < ro R (a+1))))=(aD R (ro R a)).countP (KS S R a b):=rfl;rw [n];congr 1;by_cases e:S.getD a 0 < b
 · rw [zBx e,zBx (zBz (.inl e))]
 rw [zBw e,zBw];rw [zCa];omega
def aH0 (m:IsSuf S R) (k:EndOk S (N+1)) {c s:Nat} (q:c<=N) (w:0 < s) {n0 row:Nat} {a:Int} (D:a=if c=0 then -1 else ((aS (ro R (c - 1)) (ro R c):Nat):Int))
 (M:n0+(if S.getD c 0 < s then 1 else 0)=(aF S R).countP (fun J=>decide (J < s))+((aD ((aF S R).set (ro R (c+1)) s) (ro R c)).take (aS (ro R (c+1)) (ro R c))).count s)
 (n:row=if bF S c=s/\a<=(n0:Int) then n0+1 else n0):
 row<=N+1/\Near (S.set c s) (aM (aD R (ro R c)) row c) (N+1) c:=by
 have A:=m.near k;have r:∀d,d<=N+1->d∈R:=fun d f=>A.mem.2 f;have C:=k.len;have t:∀d b,d<=N+1->b<=N+1->d≠b->ro R d≠ro R b:=fun d b f g v e=>v (eE (r d f) (r b g) e);obtain ⟨o,x⟩:=aI3 (s:=s) m k q;have E:=aI4 m k q w;obtain ⟨l,G⟩:=eqx ((aD R (ro R c)).countP (KS S R c s));rw [G] at o x E;have hrel:n0+(if ro R c < ro R (c+1)/\bF S c=s then 1 else 0)=l:=oM;have F:(row=l)∨(∃b,b+1=c/\S.getD b 0=s/\aS (ro R b) (ro R c)=l/\row=l+1):=by
  by_cases j:bF S c=s
  · have u:c≠0:=fun e=>by subst e;rw [bI oM,C,zBb,k.last] at j;omega
    obtain ⟨b,rfl⟩:∃b,c=b+1:=⟨c - 1,by omega⟩;rw [aV oM] at j;rw [zBw u,zBb] at D;have g:=o b oM oM;unfold KS at g;rw [zCa,j] at g;rw [aV oM,j] at hrel n;by_cases p:ro R (b+1) < ro R (b+1+1);left;rw [zBx ⟨p,rfl⟩] at hrel;have:aS (ro R b) (ro R (b+1)) < l:=g.2 (.inr ⟨rfl,p⟩);rw [zBx ⟨rfl,by omega⟩] at n;omega
    · rw [zBw (fun e=>p e.1)] at hrel;have K:¬aS (ro R b) (ro R (b+1)) < l:=fun e=>by rcases g.1 e with z | z;omega;exact p z.2
      by_cases y:aS (ro R b) (ro R (b+1))=l;right;rw [zBx ⟨rfl,by omega⟩] at n;exact ⟨b,rfl,j,y,by omega⟩;left;rw [zBw (fun e=>y oM)] at n;omega
  left;rw [zBw (fun e=>j e.2)] at hrel;rw [zBw (fun e=>j e.1)] at n;omega
 have H:∀d b,d<=N+1->b<=N+1->d≠c->b≠c->d≠b->aS (ro R d) (ro R c)≠aS (ro R b) (ro R c):=fun d b f g i I v=>by have U:=t d c f oM i;have V:=t b c g oM I;have W:=t d b f g v;unfold aS;split <;> split <;> omega
 rcases F with rfl |⟨b,P,Q,T,rfl⟩;refine ⟨x,aBJ m k q w x (fun d f i _=>o d f i) (fun d i=>?_)⟩;have:=o d oM oM;unfold KS at this;rw [zCa] at this;omega;have L:aS (ro R b) (ro R c) < N+1:=(by have u:=(zAc.1 (bT (r b oM))).1;have B:=(zAc.1 (bT (r c oM))).1;rw [A.len] at u B;have:=t b c oM oM oM;unfold aS;split <;> omega);refine ⟨by omega,aBJ m k q w oM (fun d f i O=>?_) (fun d i=>?_)⟩;rw [<-o d f i];have:=H d b f oM i oM oM;omega;obtain rfl:d=b:=oM;omega
def aFh (f:R.Perm (List.range (N+1+1))) (n:EndOk S (N+1)) {b s row:Nat} (r:b<=N):aF (S.set b s) (aM (aD R (ro R b)) row b)=aM (aD ((aF S R).set (ro R (b+1)) s) (ro R b)) row (bF S b):=by
 have p:R.Nodup:=f.nodup_iff.2 List.nodup_range;have q:=n.len;have o:∀a,a∈R->a<=N+1:=fun a g=>by have:=zCi.1 (f.mem_iff.1 g);omega
 have i:b+1∈R:=f.mem_iff.2 (zCi.2 oM);have j:=aGt S (s:=s) (show b < S.length by omega);have k:∀a,a<=N+1->bF (S.set b s) a=if a=b+1 then s else bF S a:=fun a t=>by
  rcases a with _ | a
  · rw [zBw oM,bI (by rw [zAt];omega),bI oM,zAt,j,zBw oM]
  · rw [aV (by rw [zAt];omega),aV oM,j];by_cases d:a=b
    · rw [zBx d,zBx oM]
    · rw [zBw d,zBw oM]
 unfold aF;rw [mA,qF,k b oM,zBw oM];congr 2;apply List.ext_getElem?;intro m;rw [zAf,zBm,zAf];cases c:R[m]? with
 | none=>
   have:¬ro R (b+1)=m:=fun e=>by rw [<-e,bT i] at c;cases c
   rw [zBw this];rfl
 | some a=>
   have g:=zAd c;have l:=fB p c;show some (bF (S.set b s) a)=_;rw [k a (o a g)];by_cases d:a=b+1
   · subst d;rw [zBx rfl,zBx l,zBx (by rw [l];simpa using (zAc.1 c).1)]
   rw [zBw d,zBw (fun e=>d ?_)];rfl;rw [<-e,bT i] at c;injection c with c;exact c.symm
end
end
section
open Go.RowKit
def aAx {a:List Nat} {c b:Nat} (d:a[c]?=some b):(a.take c).count b < a.count b:=by
 have e:a.count b=(a.take (c+1)).count b+(a.drop (c+1)).count b:=by rw [<-zCc,zAu]
 have f:(a.take (c+1)).count b=(a.take c).count b+1:=by rw [zAv,d,zCc];simp
 omega
def aGW {a:List UInt8} {b:List Nat} (n:IsSuf (aI a) b) {e m d:Nat} {c:UInt8} (p:b[e]?=some (d+1)) (q:b[m]?=some d) (i:a[d]?=some c):
 (aF (aI a) b)[e]?=some (c.toNat+1)/\bZ (aF (aI a) b) (c.toNat+1) e=m:=by
 obtain ⟨j,k⟩:=zAc.1 p;obtain ⟨r,s⟩:=zAc.1 q;have l:=(zAc.1 i).1;have o:(aI a).getD d 0=c.toNat+1:=by unfold aI cZ;rw [zAb,zAn (by simpa using l),zAf,i];rfl
 have f:=lf n (eI a) j r k s;have g:=pX (eI a) j k l;rw [o] at f g;exact ⟨zAc.2 ⟨_,g⟩,f⟩
def nT (j gk:Nat) (a:List Nat) (g c b:Nat) (d:World) (l:WalkAt d j gk a) (f:a[g]?=some b) (r:bZ a b g=c) (p:∀i∈a,i < 257) (u:a.length<=1000):
 Calls prog 81 #[gk,(c:Int)] d fun e v=>e=.returned (.int .i64 (b:Int))/\Below d.heap.size d v:=by
 have E:b < 257:=p _ (zAd f);have q:=aAx f;have s:a.countP (fun i=>decide (i < b))+(a.take g).count b=c:=r;have t:c < a.length:=by have:=tN a b a.length;unfold bZ at this;rw [List.take_length] at this;omega
 have o:=l;obtain ⟨G,B,m,C,n⟩:=l;have F:=m.cell 1;obtain ⟨w,x,k,y,z,A⟩:=hqq6 o n s q t u;clear o m C n s q r t p u f;go_enter func81,ntmps81;go_wp2_with fail;refine (vW j gk a c d w.out z.out).mono ?_;rintro e w1 ⟨rfl,rfl⟩;go_wp2_with fail;refine (wJ B a c b _ x.out E (by have:=k.out;omega) (by have:=k.out;have:=y.out;omega) A.out).mono ?_;rintro e v ⟨rfl,D⟩;go_wp2_with fail;go_ret;exact ⟨rfl,D⟩
def sZ (b:UInt8) (a:Nat) (i:a=b.toNat+1) (c:World):
 Calls prog 80 #[(a:Int)] c fun d k=>d=.returned (.tuple #[bv b,.bool true])/\Below c.heap.size c k:=by
 have g:=b.toNat_lt;have l:¬((a:Int)=0):=oM;have m:((a:Int)==0)=false:=by rw [zCb];omega
 have n:IntKind.i64.wrap ((a:Int) - 1)=(b.toNat:Int):=by rw [IntKind.wrap_i64];omega
 have o:IntKind.u8.wrap (b.toNat:Int)=(b.toNat:Int):=by rw [IntKind.wrap_u8];omega
 have e:¬a=0:=oM;have p:decide (a=0)=false:=zBy e;have j:a < 257:=oM;clear i g;go_enter func80,ntmps80;go_wp2_with fail;refine (eO a c j).mono ?_;rintro d w1 ⟨rfl,f⟩;go_wp2_with fail;go_ret2;exact ⟨rfl,f⟩
def oP (e gk:Nat) (b:List Nat) (d g a:Nat) (l:World) (y:WalkAt l e gk b) (u:b[d]?=some a) (B:bZ b a d=g) (s:∀C∈b,C < 257) (v:b.length<=1000) (I:TabW l) (A:7 < e):
 Calls prog 82 #[gk,(g:Int)] l fun r ab=>r=.returned (.int .i64 (d:Int))/\VB e l ab:=by
 have a7:a < 257:=s _ (zAd u);have K:=nT e gk b d g a l y u B s v;obtain ⟨k,w⟩:∃k,b.countP (fun C=>decide (C < a))=k:=⟨_,rfl⟩;obtain ⟨n,t⟩:=eqx ((b.take d).count a);have L:k+n=g:=by rw [<-w,<-t];exact B
 have am:k<=1000:=by rw [<-w];exact zAk zBh v
 have an:n<=1000:=by rw [<-t];exact zAk zBv (by rw [zAj];omega)
 have H:=y;obtain ⟨x,al,z,G,a5⟩:=y;have ao:=z.lt;obtain ⟨P,Q,U,Z,W,F,a1,Y,a0⟩:=hqq9 H z G u s v w t L;have D:=lhd I;clear H z G a5 u s v w t B L I;have ap:decide ((a:Int) < 0)=false:=by simp
 go_enter func82,ntmps82;go_wp2_with fail;refine K.mono ?_;rintro r m ⟨rfl,J⟩;clear K;have j:VB e l m:=VisK.of_below J;obtain ⟨X,T,V,E⟩:=hqq4 (P.out.vis j.1) (j.1.bk Q.out dC dC) (U.out.vis j.1) (D.out.vb j A D.out.pos);have aq:=j.1.size;have a2:=lhd j;clear j J;go_wp2_with fail;refine wp_region_any kR ?_;refine aX [11,12,13,14,15,16,17,18,19,20,21,4] (VB e) (Vs [is gk,is gk,is gk,is x,is (g:Int),is gk,is (a:Int),is (k:Int),is (n:Int),is (a:Int),is (d:Int),is (d:Int)]) _ _ rfl kR vR (fun _ _=>VisK.trans) (cM tA0) ?_ ?_
 · refine aR ?_;refine pH 0 (.pointer (some gk)) ?_;refine pV 0 11 ?_;refine pV 1 12 ?_;refine pL 2 13 (fun i c=>have c:(VB e) m i:=bD c;(((c.1.bk T.out dC dC).cell 0).trans rfl:i.cell? gk=some (.pointer (some x)))) ?_;refine pH 1 (.int .i64 (g:Int)) ?_;refine pH 0 (.pointer (some gk)) ?_;refine pH 5 (.int .i64 (a:Int)) ?_;refine sC (fun _ i c _ _ _ f _ _ _ o=>?_) ?_
   · have ag:_=_:=f 5 16 kR rfl;have ah:_=_:=f 6 17 kR rfl;replace c:(VB e) m i:=bD c;go_simp;refine (gT e gk b a i (X.out.vis c.1) a7 F.out).mono ?_;rintro r ad ⟨rfl,a6⟩;rw [a1.out];exact o _ _ (VisK.of_below a6) rfl
   refine sC (fun _ _ _ _ _ _ f _ _ _ o=>?_) ?_
   · have af:_=_:=f 4 15 kR rfl;have ai:_=_:=f 7 18 kR rfl;have ar:IntKind.i64.wrap ((g:Int) -(k:Int))=(n:Int):=(by rw [IntKind.wrap_i64];have:=a0.out;omega);go_simp;exact o _ _ vR rfl
   refine pH 5 (.int .i64 (a:Int)) ?_;refine sC (fun _ i c _ _ _ f _ _ _ o=>?_) ?_
   · have ae:_=_:=f 3 14 kR rfl;have aj:_=_:=f 8 19 kR rfl;have ak:_=_:=f 9 20 kR rfl;replace c:(VB e) m i:=bD c;go_simp;refine (vS e x b d n a i (V.out.vis c.1) Z.out Y.out W.out F.out (E.out.vb c A E.out.pos) A).mono ?_;rintro r ad ⟨rfl,a9⟩;exact o _ _ a9 rfl
   refine pV 10 21 ?_;exact aH
 · intro a4 ac c f;replace c:(VB e) m ac:=bD c;have a3:a4 (.tmp 4)=.int .i64 (d:Int):=f 11 4 rfl;simp only [zqq];rw [a3];clear f;have a8:=a2.out.trans c;go_wp2_with fail;go_ret;exact ⟨rfl,a8⟩
@[irreducible] def zerC (q:Nat):Array Value:=jJ .i64 q fun _=>0
@[irreducible] def filC (b:List Nat) (p:Nat):Array Value:=jJ .i64 257 fun a=>if a < p then bZ b a 0 else 0
@[irreducible] def firC (b:List Nat) (p:Nat):Array Value:=jJ .i64 257 fun a=>bZ b a p
@[irreducible] def toC (b:List Nat) (q p:Nat):Array Value:=jJ .i64 q fun d=>if d < p then bZ b (b.getD d 0) d else 0
@[irreducible] def seenC (aa:List Nat) (q g:Nat):Array Value:=jJ .i64 q fun d=>if g < aa.getD d 0 then 1 else 0
@[irreducible] def txtC (O:List UInt8) (g:Nat):Array Value:=jJ .u8 O.length fun M=>if M < g then 0 else (O.getD M 0).toNat
def aD5 (a:Nat):Array.replicate a (Value.int .i64 0)=zerC a:=by unfold zerC;exact nM _ _
def aFt (a:List Nat):Array.replicate 257 (Value.int .i64 0)=filC a 0:=by
 unfold filC;rw [nM];exact cW fun c b=>by rw [zBw oM]
def aHe {L:List Nat} {a:Nat} (e:a < 257):(filC L a).setIfInBounds a (.int .i64 ((L.countP (fun f=>decide (f < a)):Nat):Int))=filC L (a+1):=by
 unfold filC;rw [kN e];refine cW fun d g=>?_;by_cases b:d=a
 · subst b;rw [zBx rfl,zBx oM];unfold bZ;simp
 · rw [zBw b];by_cases c:d < a
   · rw [zBx c,zBx oM]
   · rw [zBw c,zBw oM]
def aHg (a:List Nat):filC a 257=firC a 0:=by
 unfold filC firC;exact cW fun c b=>by rw [zBx b]
def aHf {L:List Nat} {k a:Nat} (b:a < 257):∃c,(filC L k)[a]?=some c:=by
 unfold filC;exact ⟨_,fH b⟩
def aHd {b:List Nat} {c a:Nat} (d:a < 257):(firC b c)[a]?=some (.int .i64 ((bZ b a c:Nat):Int)):=by
 unfold firC;exact fH d
def aHc {b:List Nat} {c a:Nat} (f:b[c]?=some a) (e:a < 257):(firC b c).setIfInBounds a (.int .i64 ((bZ b a c+1:Nat):Int))=firC b (c+1):=by
 unfold firC;rw [kN e];refine cW fun g i=>?_;rw [aFd f];by_cases d:g=a
 · subst d;simp
 · rw [zBw d,zBw d]
def aGb (b:List Nat) (a:Nat):zerC a=toC b a 0:=by
 unfold zerC toC;exact cW fun d c=>by rw [zBw oM]
def aD7 {b:List Nat} {d c a:Nat} (e:a < d):(toC b d c)[a]?=some (.int .i64 (((if a < c then bZ b (b.getD a 0) a else 0:Nat)):Int)):=by
 unfold toC;exact fH e
def aHU {b:List Nat} {c a g:Nat} (j:b[a]?=some g) (i:a < c):(toC b c a).setIfInBounds a (.int .i64 ((bZ b g a:Nat):Int))=toC b c (a+1):=by
 unfold toC;rw [kN i];refine cW fun f k=>?_;by_cases d:f=a;subst d;rw [zBx rfl,zBx oM,zAb,j];rfl
 · rw [zBw d];by_cases e:f < a
   · rw [zBx e,zBx oM]
   · rw [zBw e,zBw oM]
def aCY {b:List Nat} {d c:Nat} (f:∀a∈b,a<=c):zerC d=seenC b d c:=by
 unfold zerC seenC;refine cW fun g i=>?_;rw [zBw];rw [zAb];cases e:b[g]? with
 | none=>simp
 | some a=>simpa using f a (zAd e)
def aE0 {d:List Nat} {c b a:Nat} (e:a < c) (f:d[a]?=some b):(seenC d c b)[a]?=some (.int .i64 0):=by
 unfold seenC;rw [fH e,zAb,f];simp
def aEZ {a:List Nat} {n b c:Nat} {o:List Nat} (m:IsSuf o a) (q:a.length=n) (l:c < n) (g:a[c]?=some (b+1)):(seenC a n (b+1)).setIfInBounds c (.int .i64 ((1:Nat):Int))=seenC a n b:=by
 unfold seenC;rw [kN l];refine cW fun j p=>?_;by_cases e:j=c
 · subst e;rw [zBx rfl,zAb,g,zBx (by simp)]
 · rw [zBw e];obtain ⟨d,i⟩:∃d,a[j]?=some d:=⟨_,zAa oM⟩;have r:d≠b+1:=fun k=>e (tJ m (by rw [i,k]) g);rw [zAb,i];simp only [Option.getD_some];by_cases f:b+1 < d
   · rw [zBx f,zBx oM]
   · rw [zBw f,zBw oM]
def aEF (a:List UInt8):Array.replicate a.length (Value.int .u8 0)=txtC a a.length:=by
 unfold txtC;rw [nM];exact cW fun c b=>by rw [zBx b]
def aF6 {b:List UInt8} {a:Nat} {c:UInt8} (f:b[a]?=some c):(txtC b (a+1)).setIfInBounds a (bv c)=txtC b a:=by
 have i:=(zAc.1 f).1;unfold txtC bv;rw [kN i];refine cW fun g j=>?_;by_cases d:g=a;subst d;rw [zBx rfl,zBw oM,zAb,f];rfl
 · rw [zBw d];by_cases e:g < a
   · rw [zBx e,zBx oM]
   · rw [zBw e,zBw oM]
def aF7 {t:List UInt8} {j a:Nat} (b:a < t.length):∃c,(txtC t j)[a]?=some c:=by
 unfold txtC;exact ⟨_,fH b⟩
def aF8 (b:List UInt8):(txtC b 0).toList=b.map bv:=by
 unfold txtC;rw [aFG];apply List.ext_getElem?;intro c;rw [zAf,zAf];by_cases a:c < b.length
 · rw [zCj a,zAa a];simp [bv,a]
 rw [zBg (by simpa using a),zBg (by simpa using a)];rfl
def aEG (a:List UInt8) (b:Nat):(txtC a b).size=a.length:=by unfold txtC;exact kM _ _ _
def aE3 (a:Nat) (j:a<=1000000) (b:World):(Instr.makeSlice 34 (.int .i64 (a:Int)) (.int .i64 (a:Int))).run prog b=.ok (.slice (some b.heap.size) a a) (b.alloc (.cells (Array.replicate a (.int .u8 0)) 5)):=by
 obtain ⟨i,d,e,f,g⟩:=info_parts tG;have:=run_make (P:=prog) b 34 5 i (.int .u8 0) underlying34 d e .i64 .i64 a a oM (Int.le_refl _) (by rw [g];omega) oM;rw [this,f];have c:madeCells #[.int .u8 0] a=Array.replicate a (.int .u8 0):=by apply Array.ext';rw [toList_madeCells_one];simp
 simp only [Value.cells,zBr,zBl];rw [c]
def wO (aJ:Option Addr) (V al:Nat) (l:List UInt8) (O:List Nat) (g:World) (ai:IsSuf (aI l) O) (a8:Rd g al 1 aJ (l.length+1) ((aF (aI l) O).map sv)) (aU:al<=g.heap.size) (ct:l.length<=127):
 Calls prog 162 #[.slice aJ (l.length+1) V] g fun r bm=>∃bo bt,r=.returned (.tuple #[.slice bo l.length bt,.bool true])/\Made bm g.heap.size 5 1 bo l.length bt (l.map bv)/\Below g.heap.size g bm:=by
 obtain ⟨d,az⟩:=eqx (aF (aI l) O);have z:=cX (rs:=O) (dR l);have aY:=aDC ai;have b6:d.length=l.length+1:=by rw [<-az,bH,ai.len,aO]
 rw [az] at a8 z aY;obtain ⟨N,ae⟩:=eqx l.length;obtain ⟨b,b9⟩:=eqx (N+1);rw [ae,b9] at a8 b6;rw [ae] at ct;have bQ:=qL aJ b V al d g a8 aU oM z;obtain ⟨U,a0,rfl,cj,bG⟩:=a8.2 oM;have bI:∀wr,Below g.heap.size g wr->∀(a m:Nat),d[a]?=some m->wr.cell? ⟨U,a0+a,none⟩=some (.int .i64 (m:Int)):=fun wr i a m I=>(i.cell (p:=⟨U,a0+a,none⟩) (zAl cj aU)).trans (bG a _ (by rw [zAf,I];rfl));obtain ⟨ca,aN,c7,aq,am,a3,c4⟩:=hqq7 a8 bI z b6 az ae aY;rw [ae,b9];clear a8 bG bI z b6 az ae aY;go_enter func162,ntmps162;go_wp2_with fail;refine bQ.mono ?_;clear bQ;rintro r w1 ⟨a5,rfl,cW,bD,bz⟩;obtain ⟨ap,aK⟩:=hqq2 bD bz;clear bD bz;go_wp2_with fail;have bb:=sX a5 d 0 w1 ap.out oM;rw [c4.out] at bb;refine bb.mono ?_;clear bb;rintro r a4 ⟨rfl,aW⟩;obtain ⟨aM,an⟩:=hqq2 (ap.out.below aW ap.out.lt) (aK.out.trans (aW.mono aK.out.size));clear aW ap aK;go_wp2_with fail;have d3:b<=128:=oM;refine wp_region_any kR ?_;refine tY [29,30,31,32,33,34,6,7] [31,34] 8 (Grow) (Below a4.heap.size a4) [k0 (is (.slice (some ⟨U,a0,none⟩) b V)),k0 (is (b:Int)),k0 (fun a1 a2=>∃f,a1=.slice (some ⟨f,0,none⟩) b b/\a4.heap.size<=f/\Bk a2 f 3 (zerC b)),k0 (is (.slice (some ⟨U,a0,none⟩) b V)),k0 (is (b:Int)),k0 (fun a1 a2=>∃f,a1=.slice (some ⟨f,0,none⟩) b b/\a4.heap.size<=f/\Bk a2 f 3 (zerC b)),kEq 31,kEq 34] _ _ rfl kR kR (bR.drew) (vP rfl) (fun g bm ax a=>a.elim (fun a=>ax.trans (a.mono ax.size)) (fun a=>ax.trans (a.mono ax.size))) (by repeat' (first | exact aDA _ | exact aEs _ |(refine zAe.2 ⟨?_,?_⟩)|(intro c D;cases D))) (by repeat' (first | exact tH _ _ | exact pA _ _ | exact iN (fun _ _ _ ⟨f,aS,aT,ad⟩ a=>⟨f,aS,aT,ad.below a ad.lt⟩)|(refine zAe.2 ⟨?_,?_⟩)|(intro c D;cases D))) (by simp only [List.eraseIdx_cons_zero,List.eraseIdx_cons_succ,List.eraseIdx_nil];repeat' (first | exact tH _ _ | exact pA _ _ | exact iN (fun _ _ _ ⟨f,aS,aT,ad⟩ a=>⟨f,aS,aT,ad.below a ad.lt⟩)|(refine zAe.2 ⟨?_,?_⟩)|(intro c D;cases D))) ?_ ?_
 · refine aR ?_;refine aC (cL rfl rfl fun x _ _ _ _ _ o _ _ _ _ s=>?_) ?_
   · have ch:x (.tmp 0)=.slice (some ⟨U,a0,none⟩) b V:=o 0 kR;clear o;go_simp;exact s _ _ (dD bR rfl rfl) rfl
   refine aC (cL rfl rfl fun _ _ _ _ _ _ o E _ _ _ s=>?_) ?_
   · have cJ:_=_:=E 0 29 kR rfl;clear o;go_simp;exact s _ _ (dD bR rfl rfl) rfl
   refine aC (cL rfl rfl fun _ _ aV _ _ _ o E _ _ _ s=>?_) ?_
   · obtain ⟨W,ay⟩:=aV;have cK:_=_:=E 1 30 kR rfl;clear o;have bk:=lV b oM;go_simp;exact s _ _ (iS (bR.alloc nL _) rfl (fun f ag=>by simp [blk?] at ag;subst ag;simp)) ⟨_,rfl,W.size,by rw [<-aD5];exact Bk.new _ _ _⟩
   refine aC (cL rfl rfl fun x _ _ _ _ _ o _ _ _ _ s=>?_) ?_
   · have ch:x (.tmp 0)=.slice (some ⟨U,a0,none⟩) b V:=o 0 kR;clear o;go_simp;exact s _ _ (dD bR rfl rfl) rfl
   refine aC (cL rfl rfl fun _ _ _ _ _ _ o E _ _ _ s=>?_) ?_
   · have cM:_=_:=E 3 32 kR rfl;clear o;go_simp;exact s _ _ (dD bR rfl rfl) rfl
   refine aC (cL rfl rfl fun _ _ aV _ _ _ o E _ _ _ s=>?_) ?_
   · obtain ⟨W,ay⟩:=aV;have cN:_=_:=E 4 33 kR rfl;clear o;have bk:=lV b oM;go_simp;exact s _ _ (iS (bR.alloc nL _) rfl (fun f ag=>by simp [blk?] at ag;subst ag;simp)) ⟨_,rfl,W.size,by rw [<-aD5];exact Bk.new _ _ _⟩
   refine aC (cL rfl rfl fun _ _ _ _ _ _ o _ _ _ _ s=>?_) ?_
   · clear o;go_simp;exact s _ _ (dD bR rfl rfl) rfl
   refine aC (cL rfl rfl fun _ _ _ _ _ _ o _ _ _ _ s=>?_) ?_
   · clear o;go_simp;exact s _ _ (dD bR rfl rfl) rfl
   exact aH
 · intro x ak W ay E ci;have bw:x (.tmp 6)=x (.tmp 31):=E 6 6 rfl;have bx:x (.tmp 7)=x (.tmp 34):=E 7 7 rfl;have cw:(fun a1 a2=>∃f,a1=.slice (some ⟨f,0,none⟩) b b/\a4.heap.size<=f/\Bk a2 f 3 (zerC b)) (x (.tmp 31)) ak:=E 2 31 rfl;have cx:(fun a1 a2=>∃f,a1=.slice (some ⟨f,0,none⟩) b b/\a4.heap.size<=f/\Bk a2 f 3 (zerC b)) (x (.tmp 34)) ak:=E 5 34 rfl;simp only [zqq];clear E ci;obtain ⟨y,be,bf,bX⟩:=cw;obtain ⟨q,P,ah,bS⟩:=cx;have bJ:y≠q:=fun r=>ay.2 31 (by simp) 34 (by simp) dC y (by rw [be];rfl) (by rw [P,r];rfl);have bA:=an.out.trans (W.mono an.out.size);have bE:=aM.out.below W aM.out.lt;have cT:=an.out.size;rw [bw,bx,be,P];generalize x (.tmp 29)=u29;generalize x (.tmp 30)=u30;generalize x (.tmp 32)=u32;generalize x (.tmp 33)=u33;obtain ⟨au,ar,aL,ab⟩:=hqq4 bX bS bA bE;clear bX bS bA bE ay bw bx be P W;go_wp2_with fail;obtain ⟨C,a6⟩:=eqx ak.heap.size;have b0:Bk (ak.alloc (.cells Tryz.zeroCells207 207)) C 207 (filC d 0):=(by rw [<-a6,<-aFt];exact Bk.new _ _ _);have Q:=au.out.alloc (.cells Tryz.zeroCells207 207);have Y:=ar.out.alloc (.cells Tryz.zeroCells207 207);have bi:=ab.out.alloc (.cells Tryz.zeroCells207 207);have X:=aL.out.alloc aL.out.size (.cells Tryz.zeroCells207 207);have cm:y < C:=(by rw [<-a6];exact au.out.lt);have cU:q < C:=(by rw [<-a6];exact ar.out.lt);have cV:a5 < C:=(by rw [<-a6];exact ab.out.lt);have cZ:a5≠y:=Bk.ne ab.out au.out dC;have cY:a5≠q:=Bk.ne ab.out ar.out dC;rw [a6];generalize ak.alloc (.cells Tryz.zeroCells207 207)=W1 at b0 Q Y bi X⊢;clear au ar aL ab aM an a6;go_loopw [35] (fun J wr=>∃a:Nat,a<=257/\J=.int .i64 (a:Int)/\Bk wr C 207 (filC d a)/\Bk wr y 3 (zerC b)/\Bk wr q 3 (zerC b)/\Bk wr a5 209 (tcells d)/\Below g.heap.size g wr) (fun J _=>257 -(intOf J).toNat)
   case atStart=>exact ⟨0,by omega,rfl,b0,Q,Y,bi,X⟩
   case round=>
    clear b0 Q Y bi X;obtain ⟨a,b1,rfl,H,F,u,aD,i⟩:=hrel;by_cases z:a < 257
    · have d2:((a:Int) < 257):=oM;have aX:=jF a5 d a wr aD z (by rw [aq.out];omega);obtain ⟨e,Z⟩:∃e,d.countP (fun m=>decide (m < a))=e:=⟨_,rfl⟩;have bg:=aHe (L:=d) z;rw [Z] at aX bg;obtain ⟨T,w,v,br,cb⟩:=hqq5 H F u aD bg;clear H F u aD bg Z;go_wp2_with fail;refine aX.mono ?_;clear aX;rintro r d6 ⟨rfl,af⟩;have aA:=T.out.below af T.out.lt;obtain ⟨cz,aj⟩:=aHf (L:=d) (k:=a) z;have cD:=(aA.cell a).trans aj;have cQ:=aA.frozen a;have c5:=lhd aA;clear aA aj;go_wp2_with fail;go_roundw
      case rel=>exact ⟨a+1,by omega,by go_num,by rw [<-cb.out];exact c5.out.set a _,(w.out.below af w.out.lt).far (by simp;omega) _,(v.out.below af v.out.lt).far (by simp;omega) _,(br.out.below af br.out.lt).far (by simp;omega) _,(i.trans (af.mono i.size)).setCell (by simp;omega) _⟩
      case measure=>simp [intOf];omega
    · have b2:a=257:=oM;subst b2;rw [aHg] at H;have bu:((257:Nat):Int)=257:=rfl;rw [bu];clear bu;obtain ⟨T,w,v,A⟩:=hqq4 H F u i;clear H F u aD i z b1;go_wp2_with fail;have cn:g.heap.size<=q:=oM;have cp:g.heap.size<=y:=oM;have cl:g.heap.size<=C:=oM;have bO:C≠q:=oM;have bP:q≠C:=oM;go_loopw [46] (fun J wr=>∃a:Nat,a<=b/\J=.int .i64 (a:Int)/\Bk wr C 207 (firC d a)/\Bk wr y 3 (zerC b)/\Bk wr q 3 (toC d b a)/\Below g.heap.size g wr) (fun J _=>b -(intOf J).toNat)
      case atStart=>exact ⟨0,by omega,rfl,T.out,w.out,by rw [<-aGb];exact v.out,A.out⟩
      case round=>
         clear T w v A;obtain ⟨a,b1,rfl,H,F,u,i⟩:=hrel;by_cases z:a < b
         · obtain ⟨m,I⟩:∃m,d[a]?=some m:=⟨_,zAa (by rw [aq.out];exact z)⟩;have c0:=c7.out m (zAd I);have av:=aN.out wr i a m I;obtain ⟨e,Z⟩:=eqx (bZ d m a);have d4:e<=1000:=(by have:=tN d m a;rw [Z,aq.out] at this;omega);have cB:wr.cell? ⟨C,m,none⟩=some (.int .i64 (e:Int)):=(by rw [<-Z];exact (H.cell m).trans (aHd c0));have cO:=H.frozen m;have cC:wr.cell? ⟨q,a,none⟩=some (.int .i64 (((if a < a then bZ d (d.getD a 0) a else 0:Nat)):Int)):=(u.cell a).trans (aD7 z);have cP:=u.frozen a;have a9:=aHU I z;have aa:=aHc I c0;rw [Z] at a9 aa;have cS:IntKind.i64.wrap ((e:Int)+1)=((e+1:Nat):Int):=(by rw [IntKind.wrap_i64];omega);obtain ⟨T,w,v,aP,aQ⟩:=hqq5 H F u a9 aa;clear H F u a9 aa Z;go_wp2_with fail;go_roundw
           case rel=>exact ⟨a+1,by omega,by go_num,by rw [<-aQ.out];exact (T.out.far (p:=⟨q,a,none⟩) bO _).set m _,(w.out.far (p:=⟨q,a,none⟩) bJ _).far (p:=⟨C,m,none⟩) (Nat.ne_of_lt cm) _,by rw [<-aP.out];exact (v.out.set a _).far (p:=⟨C,m,none⟩) bP _,(i.setCell (p:=⟨q,a,none⟩) cn _).setCell (p:=⟨C,m,none⟩) cl _⟩
           case measure=>simp [intOf];omega
         · have b2:b=a:=oM;subst b2;obtain ⟨w,v,A⟩:=hqq3 F u i;have ck:=i.size;clear H F u i z b1 bO bP;have cR:((b:Int) - 1)=(N:Int):=oM;have bk:=aE3 N oM;go_wp2_with fail;obtain ⟨G,a7⟩:=eqx wr.heap.size;have bj:Bk (wr.alloc (.cells (Array.replicate N (.int .u8 0)) 5)) G 5 (txtC l N):=(by rw [<-a7,<-a3.out,<-aEF];exact Bk.new _ _ _);have Q:=w.out.alloc (.cells (Array.replicate N (.int .u8 0)) 5);have Y:=v.out.alloc (.cells (Array.replicate N (.int .u8 0)) 5);have X:=A.out.alloc A.out.size (.cells (Array.replicate N (.int .u8 0)) 5);have bN:y≠G:=Nat.ne_of_lt (by rw [<-a7];exact w.out.lt);have bM:q≠G:=Nat.ne_of_lt (by rw [<-a7];exact v.out.lt);have bL:g.heap.size<=G:=(by rw [<-a7];exact A.out.size);rw [a7];generalize wr.alloc (.cells (Array.replicate N (.int .u8 0)) 5)=W2 at bj Q Y X⊢;clear w v A a7 bk ck;have bW:O.length=b:=(by have:=congrArg List.length am.out;rw [bH,aq.out] at this;exact this);have b5:∀c∈O,c<=N:=fun c D=>by have:=ai.lt D;rw [aO,a3.out] at this;omega
           rw [aCY b5] at Q;have bd:=aBu ai;rw [a3.out] at bd;obtain ⟨bq,cA,ac⟩:=hqq3 bW b5 ai;clear bW b5;go_loopw [13,14] (fun cy J wr=>∃M c:Nat,M<=N/\O[c]?=some M/\cy=.int .i64 (c:Int)/\J=.int .i64 ((M:Int) - 1)/\Bk wr y 3 (seenC O b M)/\Bk wr q 3 (toC d b b)/\Bk wr G 5 (txtC l M)/\Below g.heap.size g wr) (fun _ J _=>(intOf J+1).toNat)
           case atStart=>exact ⟨N,0,by omega,bd,rfl,by first | rfl | go_num,Q,Y,bj,X⟩
           case round=>
            clear Q Y bj X bd;obtain ⟨M,c,d1,D,rfl,rfl,F,u,I,i⟩:=hrel;have aB:c < b:=(by rw [<-bq.out];exact (zAc.1 D).1);by_cases cr:M=0
            · subst cr;have b3:=aFg ac.out D;rw [am.out] at b3;have av:=aN.out wr i c 0 b3;have cs:(((0:Nat):Int) - 1)=-1:=rfl;rw [cs];have b8:=aEh (B:=g.heap.size) I bL ((aEG l 0).trans a3.out) (by unfold maxLen;omega);rw [aF8] at b8;obtain ⟨bp,A⟩:=hqq2 b8 i;clear F u I i b8 b3;have b4:=mK (some ⟨G,0,none⟩) N N wr.heap.size l wr bp.out.rd nL oM;rw [b9] at b4;go_wp2_with fail;refine b4.mono ?_;clear b4;rintro r bn ⟨d5,c2,cg,bf,rfl,b7,K⟩;have cv:=bf.unique ac.out;subst cv;rw [am.out] at b7;have bY:=wN c2 (some ⟨U,a0,none⟩) b cg V bn.heap.size d bn b7.rd (((ca.out.below (A.out.mono aU)).below (K.mono (by have:=A.out.size;omega))).mono (by have:=A.out.size;have:=K.size;omega)) nL oM;have ao:=lhd K;clear K b7 bf av;go_wp2_with fail;refine bY.mono ?_;clear bY;rintro r d7 ⟨rfl,bC⟩;have c3:=lhd bC;clear bC;go_wp2_with fail;go_ret2;have bB:=ao.out.trans (c3.out.mono ao.out.size);exact ⟨_,_,rfl,bp.out.below bB,A.out.trans (bB.mono A.out.size)⟩
            · obtain ⟨e,rfl⟩:∃e,M=e+1:=⟨M - 1,by omega⟩;have cu:(((e+1:Nat):Int) - 1)=(e:Int):=oM;rw [cu];have bV:e < l.length:=(by rw [a3.out];omega);obtain ⟨aw,aZ⟩:∃aw,l[e]?=some aw:=⟨_,zAa bV⟩;obtain ⟨bl,bU,bT⟩:=ac.out.row (p:=e) (by rw [aO,a3.out];omega);have bc:O[bl]?=some e:=(by rw [zAa bU,bT]);obtain ⟨P,ah⟩:=aGW ac.out D bc aZ;rw [am.out] at P ah;have av:=aN.out wr i c _ P;obtain ⟨c1,bh⟩:=eqx (aw.toNat+1);have bF:=sZ aw c1 bh.symm wr;rw [bh] at P ah av;have a9:=aEZ (n:=b) ac.out bq.out aB D;have aa:=aF6 aZ;have bK:(toC d b b)[c]?=some (.int .i64 (bl:Int)):=(by rw [aD7 aB,zBx aB,zAb,P];show some (Value.int .i64 ((bZ d c1 c:Nat):Int))=_;rw [ah]);obtain ⟨cz,aj⟩:=aF7 (t:=l) (j:=e+1) bV;obtain ⟨c9,aP,aQ,c6,w,v,bs,cd,cc⟩:=hqq9 bc a9 aa bK F u I aj (aE0 aB D);clear bc bT bU P ah bh a9 aa bK F u I aj aZ;go_wp2_with fail;refine bF.mono ?_;clear bF;rintro r bn ⟨rfl,K⟩;have aG:=w.out.below K w.out.lt;have ba:=v.out.below K v.out.lt;have aE:=bs.out.below K bs.out.lt;have cE:=(aG.cell c).trans cc.out;have cF:=aG.frozen c;have cG:=(ba.cell c).trans c6.out;have cH:=(aE.cell e).trans cd.out;have cI:=aE.frozen e;have co:q≠y:=fun r=>bJ r.symm;have cq:G≠y:=fun r=>bN r.symm;have d0:G≠q:=fun r=>bM r.symm;obtain ⟨cf,c8,ce,ao⟩:=hqq4 aG ba aE (i.trans (K.mono i.size));clear aG ba aE K i;unfold bv;go_wp2_with fail;go_roundw
              case rel=>
               refine ⟨e,bl,by omega,c9.out,rfl,?_,?_,?_,?_,?_⟩
               · first | rfl | go_num
               rw [<-aP.out];exact (cf.out.set c _).far (p:=⟨G,e,none⟩) bN _;exact (c8.out.far (p:=⟨y,c,none⟩) co _).far (p:=⟨G,e,none⟩) bM _;rw [<-aQ.out];exact (ce.out.far (p:=⟨y,c,none⟩) cq _).set e _;exact (ao.out.setCell (p:=⟨y,c,none⟩) cp _).setCell (p:=⟨G,e,none⟩) bL _
              case measure=>simp [intOf]
end
end Go.Proofs.YtcfpmjbojoidoaaGreatDoor
