/- Lemmas of the walk. Conditions: each its own. -/
import Derived.Test.YtcfpmjbojoidoaaGreatDoorPd9
import Derived.Test.YtcfpmjbojoidoaaGreatDoorPd10
import Derived.Test.YtcfpmjbojoidoaaGreatDoorProg
import Derived.Test.YtcfpmjbojoidoaaGreatDoorShl
import Derived.Test.YtcfpmjbojoidoaaGreatDoorSht
set_option linter.all false
set_option maxRecDepth 100000
set_option maxHeartbeats 4000000
open Go.Proofs.Tryz
namespace Go.Proofs.YtcfpmjbojoidoaaGreatDoor
section
open Go.RowKit
def vW (d gk:Nat) (a:List Nat) (i:Nat) (b:World) (f:WalkAt b d gk a) (l:i < a.length):
 Calls prog 150 #[gk,(i:Int)] b fun e g=>e=.returned (.bool true)/\b=g:=by
 obtain ⟨m,c⟩:=eqx a.length;rw [c] at l;have n:(i:Int) < (m:Int):=oM;obtain ⟨k,j⟩:=hqq2 c f;clear c f;go_enter func150,ntmps150;go_wp2_with fail;refine (jR d gk a b j.out).mono ?_;rintro e g ⟨rfl,rfl⟩;rw [k.out];go_wp2_with fail;go_ret;exact ⟨rfl,rfl⟩
def lH (e gk:Nat) (c:List Nat) (i b:Nat) (m:World) (E:WalkAt m e gk c) (q:c[i]?=some b) (x:∀A∈c,A < 257) (z:c.length<=1000):
 Calls prog 148 #[gk,(i:Int)] m fun g a7=>g=.returned (.int .i64 ((bZ c b i:Nat):Int))/\VB e m a7:=by
 have K:=(zAc.1 q).1;have M:b < 257:=x _ (zAd q);have I:=E;obtain ⟨o,ah,p,G,a2⟩:=E;have Z:=p.cell 0;have ak:=p.lt;obtain ⟨l,y⟩:=eqx (bZ c b i);obtain ⟨t,r⟩:∃a6,c.countP (fun A=>decide (A < b))=a6:=⟨_,rfl⟩;obtain ⟨u,s⟩:=eqx ((c.take i).count b);have L:t+u=l:=by rw [<-r,<-s,<-y];rfl
 have ai:t<=1000:=by rw [<-r];exact zAk zBh z
 have aj:u<=1000:=by rw [<-s];exact zAk zBv (by rw [zAj];omega)
 rw [y];obtain ⟨B,O,C,v,U,D,w,W,X⟩:=hqq9 I p G K q x z r s;have V:=lhd L;clear I p G a2 K q x z r s y L;go_enter func148,ntmps148;go_wp2_with fail;refine (vW e gk c i m B.out v.out).mono ?_;rintro g w1 ⟨rfl,rfl⟩;go_wp2_with fail;refine (dN e o c i b m C.out v.out (zAc.1 U.out).2 D.out w.out).mono ?_;rintro g n ⟨rfl,k⟩;have J:=B.out.vis k.1;have F:=k.1.bk O.out dC dC;have H:=C.out.vis k.1;obtain ⟨T,P,Q,Y⟩:=hqq4 J F H k;clear J F H k Z;go_wp2_with fail;refine wp_region_any kR ?_;refine aX [20,21,22,23,24,25,26,27,28,29,30,4] (VB e) (Vs [is gk,is (b:Int),is (t:Int),is gk,is gk,is gk,is o,is (i:Int),is (b:Int),is (u:Int),is (l:Int),is (l:Int)]) _ _ rfl kR vR (fun _ _=>VisK.trans) (cM tA0) ?_ ?_
 · refine aR ?_;refine pH 0 (.pointer (some gk)) ?_;refine pH 5 (.int .i64 (b:Int)) ?_;refine sC (fun _ f a _ _ _ d _ _ _ j=>?_) ?_
   · have aa:_=_:=d 0 20 kR rfl;have ab:_=_:=d 1 21 kR rfl;replace a:(VB e) n f:=bD a;go_simp;refine (gT e gk c b f (T.out.vis a.1) M w.out).mono ?_;rintro g a9 ⟨rfl,a3⟩;rw [W.out];exact j _ _ (VisK.of_below a3) rfl
   refine pH 0 (.pointer (some gk)) ?_;refine pV 3 23 ?_;refine pV 4 24 ?_;refine pL 5 25 (fun f a=>have a:(VB e) n f:=bD a;(((a.1.bk P.out dC dC).cell 0).trans rfl:f.cell? gk=some (.pointer (some o)))) ?_;refine pH 1 (.int .i64 (i:Int)) ?_;refine pH 5 (.int .i64 (b:Int)) ?_;refine sC (fun _ f a _ _ _ d _ _ _ j=>?_) ?_
   · have ad:_=_:=d 6 26 kR rfl;have ae:_=_:=d 7 27 kR rfl;have af:_=_:=d 8 28 kR rfl;replace a:(VB e) n f:=bD a;go_simp;refine (gF e o c i b f (Q.out.vis a.1) M (zCl v.out) D.out w.out).mono ?_;rintro g a9 ⟨rfl,a5⟩;rw [X.out];exact j _ _ a5 rfl
   refine sC (fun _ _ _ _ _ _ d _ _ _ j=>?_) ?_
   · have ac:_=_:=d 2 22 kR rfl;have ag:_=_:=d 9 29 kR rfl;have al:IntKind.i64.wrap ((t:Int)+(u:Int))=(l:Int):=(by rw [IntKind.wrap_i64];have:=V.out;omega);go_simp;exact j _ _ vR rfl
   refine pV 10 30 ?_;exact aH
 · intro a1 a8 a d;replace a:(VB e) n a8:=bD a;have a0:a1 (.tmp 4)=.int .i64 (l:Int):=d 11 4 rfl;simp only [zqq];rw [a0];clear d;have a4:=Y.out.trans a;go_wp2_with fail;go_ret;exact ⟨rfl,a4⟩
def aBu {a:List UInt8} {c:List Nat} (d:IsSuf (aI a) c):c[0]?=some a.length:=by
 obtain ⟨o,l,m⟩:=eI a;obtain ⟨j,g,f⟩:=d.row (p:=a.length) oM;rcases zBa j with e | e
 · subst e;rw [zAa g,f]
 · exfalso;have b:=zAr.1 d.sorted 0 j oM g e;rw [f] at b;have n:=d.lt (zBj (show 0 < c.length by omega));have q:c[0]' oM≠a.length:=fun k=>by exact (zAr.1 d.nodup 0 j oM g e) (by rw [k,f])
   rw [oC,eG (by omega:a.length < (aI a).length),eG n,l] at b;have:=m (c[0]' oM) oM;rcases b with b | b;omega;omega
def tJ {n c:List Nat} (d:IsSuf n c) {i b k:Nat} (l:c[i]?=some k) (m:c[b]?=some k):i=b:=by
 obtain ⟨e,f⟩:=zAc.1 l;obtain ⟨g,j⟩:=zAc.1 m;rcases Nat.lt_trichotomy i b with a | a | a;exact absurd (by rw [f,j]) (zAr.1 d.nodup i b e g a);exact a;exact absurd (by rw [f,j]) (zAr.1 d.nodup b i g e a)
end
section
def aDD {a:List Nat} (k:a.Nodup) {x:Nat} (m:x∈a) {c d:Nat->Bool} (j:∀b∈a,b≠x->c b=d b):a.countP c+(if d x then 1 else 0)=a.countP d+(if c x then 1 else 0):=by
 have f:=List.perm_cons_erase m;have l:=f.nodup_iff.1 k;have e:(a.erase x).countP c=(a.erase x).countP d:=List.countP_congr fun b g=>by rw [j b (List.mem_of_mem_erase g) (fun e=>(List.nodup_cons.1 l).1 (e ▸ g))]
 rw [f.countP_eq,f.countP_eq,zBn,zBn,e];omega
def aIT {R:List Nat} (d:R.Nodup) {a:Nat} (e:a∈R):R.countP (fun f=>decide (ro R f < ro R a))=ro R a:=by
 have b:=yN d (ro R a) (fun _=>true);have c:(R.take (ro R a)).countP (fun _=>true)=(R.take (ro R a)).length:=List.countP_eq_length.2 fun _ _=>rfl;rw [c,zAj] at b;have g:ro R a < R.length:=List.idxOf_lt_length_iff.2 e;rw [zCt oM] at b;simp only [Bool.true_and] at b;exact b.symm
def aHB (c d b:Nat):Nat:=let a:=if d < b then c - 1 else c;if b<=a then a+1 else a
section
variable {S R : List Nat} {N i : Nat}
def aGY (c:Near S R N (i+2)) (B:i+1 < N):(if S.getD (i+1) 0=S.getD i 0 then aHB (bZ (aF S R) (S.getD i 0) (ro R (i+1))) (ro R (i+2)) (ro R (i+1)) else bZ (aF S R) (S.getD i 0) (ro R (i+1)))=ro R i/\
 (S.getD (i+1) 0=S.getD i 0->ro R (i+2) < ro R (i+1)->0 < bZ (aF S R) (S.getD i 0) (ro R (i+1))):=by
 have t:=c.nodup;have l:∀a,a<=N->a∈R:=fun a m=>c.mem.2 m;have n:∀a e,a<=N->e<=N->a≠e->ro R a≠ro R e:=fun a e m v u g=>u (eE (l a m) (l e v) g);have r:=c.endk.pos i oM;rw [pQ c.endk c.perm r];have p:(List.range (N+1)).countP (fun a=>decide (ro R a < ro R i))=ro R i:=by rw [<-c.perm.countP_eq];exact aIT t (l i oM)
 have q:∀d∈List.range (N+1),d≠i+1->decide (ro R d < ro R i)=decide (S.getD d 0 < S.getD i 0∨(S.getD d 0=S.getD i 0/\ro R (d+1) < ro R (i+1))):=fun d w E=>by rw [zCi] at w;rw [decide_eq_decide];by_cases o:d=i;subst o;omega;exact c.cons d i oM oM o oM oM
 have b:=aDD List.nodup_range (x:=i+1) (by simp;omega) q;rw [p] at b;unfold aAo;generalize D:List.countP (fun a=>decide (S.getD a 0 < S.getD i 0∨(S.getD a 0=S.getD i 0/\ro R (a+1) < ro R (i+1)))) (List.range (N+1))=n0 at b⊢;have C:=n i (i+1) oM oM oM;have A:=n (i+2) (i+1) oM oM oM;have y:=c.first (i+1) i oM oM;have z:=c.first i (i+1) oM oM;simp only [zCa,show i+1+1=i+2 by omega] at b;by_cases k:S.getD (i+1) 0=S.getD i 0
 · have j:(S.getD (i+1) 0 < S.getD i 0∨(S.getD (i+1) 0=S.getD i 0/\ro R (i+2) < ro R (i+1)))↔ro R (i+2) < ro R (i+1):=oM;simp only [j] at b;rw [zBx k];unfold aHB;refine ⟨?_,fun _ s=>?_⟩
   · by_cases f:ro R (i+2) < ro R (i+1)
     · rw [zBx f] at b;simp only [zBx f];split at b <;> split <;> omega
     · rw [zBw f] at b;simp only [zBw f];split at b <;> split <;> omega
   · rw [zBx s] at b;split at b <;> omega
 have j:(S.getD (i+1) 0 < S.getD i 0∨(S.getD (i+1) 0=S.getD i 0/\ro R (i+2) < ro R (i+1)))↔ro R (i+1) < ro R i:=oM;simp only [j] at b;rw [zBw k];exact ⟨by omega,fun g=>absurd g k⟩
def sh (b a:Nat):Nat:=if a < b then a else a+1
def aCX {b c d:Nat} (a:sh b c=sh b d):c=d:=by unfold sh at a;split at a <;> split at a <;> omega
def yQ (a b:Nat):sh a b≠a:=by unfold sh;split <;> omega
def kS {b a:Nat} (e:a≠b):∃d,sh b d=a:=by
 by_cases c:a < b;exact ⟨a,by unfold sh;rw [zBx c]⟩;exact ⟨a - 1,by unfold sh;rw [zBw oM];omega⟩
def kZ (b:List Nat) {c:Nat} (d:Nat) (e:c<=b.length) (a:Nat):(aM b c d).getD a 0=if a < c then b.getD a 0 else if a=c then d else b.getD (a - 1) 0:=by
 rw [zAb,iB b d e];split
 · rw [zAb]
 · split;rfl
   · rw [zAb]
def aIo (a:List Nat) {c:Nat} (d:c < a.length) (b:Nat):(aD a c).getD b 0=if b < c then a.getD b 0 else a.getD (b+1) 0:=by
 rw [zAb,dM a d];split
 · rw [zAb]
 · rw [zAb]
def kY (c:List Nat) {b:Nat} (e a:Nat) (f:b<=c.length):(aM c b e).getD (sh b a) 0=c.getD a 0:=by
 rw [kZ c e f];by_cases d:a < b
 · rw [show sh b a=a by unfold sh;rw [zBx d],zBx d]
 · rw [show sh b a=a+1 by unfold sh;rw [zBw d],zBw oM,zBw oM,zBb]
def vA (b:List Nat) {a:Nat} (c:Nat) (d:a<=b.length):(aM b a c).getD a 0=c:=by
 rw [kZ b c d,zBw oM,zBx rfl]
def aGC {R:List Nat} (l:R.Nodup) {at_ row:Nat} (n:row<=R.length):ro (aM (R.map (sh at_)) row at_) at_=row/\(∀a∈R,ro (aM (R.map (sh at_)) row at_) (sh at_ a)=inR (ro R a) row)/\(aM (R.map (sh at_)) row at_).Nodup:=by
 have e:row<=(R.map (sh at_)).length:=by simpa using n
 have b:(aM (R.map (sh at_)) row at_).Nodup:=by rw [(eM _ _ _).nodup_iff,List.nodup_cons];refine ⟨fun k=>?_,List.pairwise_map.2 (l.imp fun g j=>g (aCX j))⟩;obtain ⟨a,_,f⟩:=zAy.1 k;exact yQ _ _ f
 refine ⟨fB b ?_,fun a m=>fB b ?_,b⟩
 · rw [iB _ _ e,zBw oM,zBx rfl]
 rw [iB _ _ e];have d:=bT m;unfold inR;by_cases c:row<=ro R a;rw [zBx c,zBw oM,zBw oM,zBb,zAf,d];rfl;rw [zBw c,zBx oM,zAf,d];rfl
def aIj (f:EndOk S N) {a c:Nat} (k:a<=N) (g:0 < c):EndOk (aM S a c) (N+1):=by
 obtain ⟨d,e,b⟩:=f;refine ⟨by rw [fG _ _ oM,d],?_,fun j l=>?_⟩
 · rw [kZ _ _ oM,zBw oM,zBw oM,zBb,e]
 rw [kZ _ _ oM];split;exact b j oM;split;exact g;exact b _ oM
def aGP {R:List Nat} (c:R.Perm (List.range (N+1))) {a:Nat} (row:Nat) (n:a<=N):(aM (R.map (sh a)) row a).Perm (List.range (N+1+1)):=by
 refine (List.perm_ext_iff_of_nodup ?_ List.nodup_range).2 fun m=>?_;rw [(eM _ _ _).nodup_iff,List.nodup_cons];refine ⟨fun k=>?_,List.pairwise_map.2 ((c.nodup_iff.2 List.nodup_range).imp fun g j=>g (aCX j))⟩;obtain ⟨d,_,f⟩:=zAy.1 k;exact yQ _ _ f
 · rw [(eM _ _ _).mem_iff,List.mem_cons,zAy,zCi];constructor
   · rintro (rfl |⟨d,l,rfl⟩);omega
     · have:=zCi.1 (c.mem_iff.1 l);unfold sh;split <;> omega
   · intro e;by_cases b:m=a;exact .inl b
     · obtain ⟨d,rfl⟩:=kS b;refine .inr ⟨d,c.mem_iff.2 (zCi.2 ?_),rfl⟩;unfold sh at e b;split at e <;> omega
def aGZ (a2:IsSuf S R) (r:EndOk S N) {c s:Nat} (u:c<=N) (Y:0 < s):bZ (aF S R) s (ro R c)<=R.length/\Near (aM S c s) (aM (R.map (sh c)) (bZ (aF S R) s (ro R c)) c) (N+1) c:=by
 have m:=a2.near r;have H:=m.nodup;have l:∀d,d<=N->d∈R:=fun d n=>m.mem.2 n;obtain ⟨row,X⟩:=eqx (bZ (aF S R) s (ro R c));have Q:R.countP (fun d=>decide (S.getD d 0 < s∨(S.getD d 0=s/\ro R (d+1) < ro R c)))=row:=by rw [<-X,pQ r m.perm Y,m.perm.countP_eq];rfl
 rw [X];have T:row<=R.length:=by rw [<-Q];exact zBh
 have A:∀d,d<=N->(decide (S.getD d 0 < s∨(S.getD d 0=s/\ro R (d+1) < ro R c))=true↔ro R d < row):=fun d n=>by rw [<-Q];refine aAe (K:=fun d=>decide (S.getD d 0 < s∨(S.getD d 0=s/\ro R (d+1) < ro R c))) ?_ _ _ (bT (l d n));rw [zAr];intro w x M P aa k;have a7:ro R R[w]=w:=fB H (zAa M);have a8:ro R R[x]=x:=fB H (zAa P);have a3:R[w]<=N:=m.mem.1 (zBj M);have a4:R[x]<=N:=m.mem.1 (zBj P);have z:=(m.cons R[w] R[x] a3 a4 (fun j=>by rw [j,a8] at a7;omega) oM oM).1 oM;unfold rU at z;rw [zCa] at k⊢;omega
 obtain ⟨E,q,ab⟩:=aGC H (at_:=c) T;have a9:=r.len;refine ⟨T,aIj r u Y,aGP m.perm row u,fun d v n o g=>?_,fun d v n o W V B=>?_⟩
 · by_cases t:d=c
   · subst t;by_cases p:v=d;subst p;omega
     · obtain ⟨b,rfl⟩:=kS p;have e:b<=N:=(by unfold sh at o;split at o <;> omega);rw [E,q b (l b e)] at g;rw [vA _ _ oM,kY _ _ _ oM];have k:=A b e;rw [zCa] at k;unfold inR at g;split at g <;> omega
   · obtain ⟨a,rfl⟩:=kS t;have f:a<=N:=(by unfold sh at n;split at n <;> omega);by_cases p:v=c
     · subst p;rw [E,q a (l a f)] at g;rw [vA _ _ oM,kY _ _ _ oM];have k:=A a f;rw [zCa] at k;unfold inR at g;split at g <;> omega
     · obtain ⟨b,rfl⟩:=kS p;have e:b<=N:=(by unfold sh at o;split at o <;> omega);rw [q a (l a f),q b (l b e)] at g;rw [kY _ _ _ oM,kY _ _ _ oM];refine m.first a b f e ?_;unfold inR at g;split at g <;> split at g <;> omega
 · have C:∀a,a<=N->sh c a+1≠c->a < N->sh c a+1=sh c (a+1):=fun a f z _=>by unfold sh at z⊢;by_cases Z:a < c <;> by_cases a0:a+1 < c <;> simp only [Z,a0,if_true,if_false] at z⊢<;> omega
   have O:c+1=sh c c:=(by unfold sh;rw [zBw oM]);have D:∀a b,a<=N->b<=N->(ro (aM (R.map (sh c)) row c) (sh c a) < ro (aM (R.map (sh c)) row c) (sh c b)↔ro R a < ro R b):=fun a b f e=>by rw [q a (l a f),q b (l b e)];unfold inR;split <;> split <;> omega
   have y:∀F,F<=N->S.getD F 0≠0->F < N:=fun F a6 U=>Nat.lt_of_le_of_ne a6 fun j=>by subst j;exact U r.last
   unfold rU;by_cases t:d=c
   · subst t;obtain ⟨b,rfl⟩:=kS (fun j=>W j.symm);have e:b<=N:=(by unfold sh at o;split at o <;> omega);rw [E,q b (l b e),vA _ _ oM,kY _ _ _ oM];have k:=A b e;rw [zCa] at k;have g:row < inR (ro R b) row↔¬ro R b < row:=(by unfold inR;split <;> omega);rw [g,<-k];by_cases L:S.getD b 0=s
     · have J:=y b e oM;rw [C b e B J,O,D d (b+1) u oM];have:=fun j=>eE (l (b+1) oM) (l d u) j;have U:ro R (b+1)≠ro R d:=fun j=>by have:=this j;unfold sh at B;split at B <;> omega
       omega
     omega
   · obtain ⟨a,rfl⟩:=kS t;have f:a<=N:=(by unfold sh at n;split at n <;> omega);by_cases p:v=c
     · subst p;rw [E,q a (l a f),vA _ _ oM,kY _ _ _ oM];have k:=A a f;rw [zCa] at k;have g:inR (ro R a) row < row↔ro R a < row:=(by unfold inR;split <;> omega);rw [g,<-k];by_cases L:S.getD a 0=s
       · have I:=y a f oM;rw [C a f V I,O,D (a+1) v oM u]
       omega
     · obtain ⟨b,rfl⟩:=kS p;have e:b<=N:=(by unfold sh at o;split at o <;> omega);have a5:a≠b:=fun j=>W (by rw [j]);rw [D a b f e,kY _ _ _ oM,kY _ _ _ oM,m.cons a b f e a5 oM oM];unfold rU;by_cases L:S.getD a 0=S.getD b 0
       · by_cases a1:S.getD a 0=0;have ac:a=N:=Nat.le_antisymm f (zCr.1 fun G=>by have:=r.pos a G;omega);have ad:b=N:=Nat.le_antisymm e (zCr.1 fun G=>by have:=r.pos b G;omega);omega
         · have I:=y a f a1;have J:=y b e oM;rw [C a f V I,C b e B J,D (a+1) (b+1) oM oM]
       omega
def aFi (r:R.Nodup) (m:R.Perm (List.range (N+1))) (p:EndOk S N) {b s row:Nat} (v:b<=N) (y:row<=R.length):aF (aM S b s) (aM (R.map (sh b)) row b)=aM ((aF S R).set (ro R b) s) row (bF S b):=by
 have e:=p.len;have j:(aM S b s).length=N+1+1:=by rw [fG _ _ oM,e]
 have q:∀a,a∈R->a<=N:=fun a t=>by have:=zCi.1 (m.mem_iff.1 t);omega
 have k:b∈R:=m.mem_iff.2 (zCi.2 oM);unfold aF;rw [mA];congr 1
 · apply List.ext_getElem?;intro n;rw [zAf,zAf,zBm,zAf];cases c:R[n]? with
   | none=>
     simp;intro d;subst d;rw [bT k] at c;cases c
   | some a=>
     have x:=q a (zAd c);have l:ro R a=n:=fB r c;show some (bF (aM S b s) (sh b a))=_;by_cases f:a=b
     · subst f;rw [zBx l,zBx (by simpa using (zAc.1 (l ▸ c)).1)];congr 1;rw [show sh a a=a+1 by unfold sh;rw [zBw oM],aV oM,vA _ _ oM]
     · rw [zBw (fun d=>f (by have g:=bT k;rw [d,c] at g;injection g))];show some _=some (bF S a);congr 1;rcases a with _ | a
       · rw [show sh b 0=0 by unfold sh;rw [zBx oM],bI oM,bI oM,j,e,zBb,zBb,kZ _ _ oM,zBw oM,zBw oM,zBb]
       · have o:sh b (a+1)=sh b a+1:=(by unfold sh;split <;> split <;> omega);have w:sh b a+1 < N+1+1:=(by unfold sh;split <;> omega);rw [o,aV oM,aV oM,kY _ _ _ oM]
 · rcases b with _ | u
   · rw [bI oM,bI oM,j,e,zBb,zBb,kZ _ _ oM,zBw oM,zBw oM,zBb]
   · rw [aV oM,aV oM,kZ _ _ oM,zBx oM]
def aDp {a c b:Nat} (d:R[a]?=some b):aF S (aM (aD R a) c b)=aM (aD (aF S R) a) c (bF S b):=by
 unfold aF;rw [mA,qF]
end
section
variable {S R : List Nat} {N : Nat}
def ush (b a:Nat):Nat:=if a < b then a else a - 1
def aF5 (a b:Nat):ush a (sh a b)=b:=by
 unfold ush sh
 (repeat' split)<;> omega
def aCW {k a:Nat} (b:a≠k):sh k (ush k a)=a:=by
 unfold ush sh
 (repeat' split)<;> omega
def jC (a:List Nat) {b:Nat} (c:Nat) (d:b < a.length):(aD a b).getD c 0=a.getD (sh b c) 0:=by
 rw [aIo a d];unfold sh;split <;> rfl
def aIn (d:EndOk S (N+1)) {a:Nat} (f:a<=N):EndOk (aD S a) N:=by
 obtain ⟨e,b,c⟩:=d;have g:=cQ S (k:=a) oM;refine ⟨by omega,?_,fun l j=>?_⟩;rw [jC _ _ oM];unfold sh;rw [zBw oM];exact b
 · rw [jC _ _ oM];refine c _ ?_;unfold sh;split <;> omega
def aAu (m:R.Perm (List.range (N+1+1))) {b:Nat} (t:b<=N):(b::aD R (ro R b)).Perm R/\(aD R (ro R b)).Nodup/\(∀a∈R,a≠b->(aD R (ro R b))[aS (ro R a) (ro R b)]?=some a)/\∀a,a∈aD R (ro R b)↔a∈R/\a≠b:=by
 have r:R.Nodup:=m.nodup_iff.2 List.nodup_range;have l:b∈R:=m.mem_iff.2 (zCi.2 oM);have j:=bT l;have q:=(zAc.1 j).1;have d:=dY j;have f:=d.nodup_iff.2 r;rw [List.nodup_cons] at f;refine ⟨d,f.2,fun a n s=>?_,fun a=>?_⟩;have k:=bT n;have u:ro R a≠ro R b:=fun e=>s (eE n l e);rw [dM _ q];unfold aS;by_cases g:ro R b < ro R a;rw [zBx g,zBw oM,show ro R a - 1+1=ro R a by omega];exact k;rw [zBw g,zBx oM];exact k;constructor;intro c;exact ⟨d.mem_iff.1 (List.mem_cons_of_mem _ c),fun e=>f.1 (e ▸ c)⟩;rintro ⟨o,p⟩;rcases List.mem_cons.1 (d.mem_iff.2 o) with c | c;exact absurd c p;exact c
def aGD (e:R.Perm (List.range (N+1+1))) {at_:Nat} (r:at_<=N):((aD R (ro R at_)).map (ush at_)).Perm (List.range (N+1))/\∀a,a<=N->ro ((aD R (ro R at_)).map (ush at_)) a=aS (ro R (sh at_ a)) (ro R at_):=by
 obtain ⟨v,p,q,b⟩:=aAu e r;have g:((aD R (ro R at_)).map (ush at_)).Nodup:=by refine List.pairwise_map.2 (p.imp_of_mem fun {c l} d t s m=>s ?_);have n:=aCW (k:=at_) ((b c).1 d).2;have o:=aCW (k:=at_) ((b l).1 t).2;rw [<-n,<-o,m]
 have f:∀a,a<=N->sh at_ a∈R:=fun a w=>e.mem_iff.2 (zCi.2 (by unfold sh;split <;> omega));refine ⟨(List.perm_ext_iff_of_nodup g List.nodup_range).2 fun j=>?_,fun a u=>?_⟩
 · rw [zAy,zCi];constructor
   · rintro ⟨c,d,rfl⟩;have:=zCi.1 (e.mem_iff.1 ((b c).1 d).1);have:=((b c).1 d).2;unfold ush;split <;> omega
   intro x;exact ⟨sh at_ j,(b _).2 ⟨f j oM,yQ _ _⟩,aF5 _ _⟩
 · refine fB g ?_;rw [zAf,q _ (f a u) (yQ _ _)];show some (ush at_ (sh at_ a))=some a;rw [aF5]
def aG0 (x:IsSuf S R) (j:EndOk S (N+1)) {at_:Nat} (q:at_<=N):Near (aD S at_) ((aD R (ro R at_)).map (ush at_)) N at_:=by
 have k:=x.near j;have I:=j.len;obtain ⟨w,o⟩:=aGD k.perm q;have l:∀a,a<=N+1->a∈R:=fun a d=>k.mem.2 d;have f:∀a,a<=N->sh at_ a<=N+1:=fun a d=>by unfold sh;split <;> omega
 have m:∀a b,a<=N->b<=N->(ro ((aD R (ro R at_)).map (ush at_)) a < ro ((aD R (ro R at_)).map (ush at_)) b↔ro R (sh at_ a) < ro R (sh at_ b)):=fun a b d e=>by rw [o a d,o b e];have K:ro R (sh at_ a)≠ro R at_:=fun g=>yQ _ _ (eE (l _ (f a d)) (l at_ oM) g);have L:ro R (sh at_ b)≠ro R at_:=fun g=>yQ _ _ (eE (l _ (f b e)) (l at_ oM) g);unfold aS;split <;> split <;> omega
 refine ⟨aIn j q,w,fun a b d e B=>?_,fun a b d e E D F=>?_⟩;rw [jC _ _ oM,jC _ _ oM];exact k.first _ _ (f a d) (f b e) ((m a b d e).1 B)
 · have C:sh at_ a≠sh at_ b:=fun g=>E (aCX g);rw [m a b d e,k.cons _ _ (f a d) (f b e) C oM oM];unfold rU;rw [jC _ _ oM,jC _ _ oM];by_cases H:S.getD (sh at_ a) 0=S.getD (sh at_ b) 0
   · by_cases n:S.getD (sh at_ a) 0=0;have u:∀c,c<=N+1->S.getD c 0=0->c=N+1:=fun c s t=>Nat.le_antisymm s (zCr.1 fun A=>by have:=j.pos c A;omega);have M:=u _ (f a d) n;have O:=u _ (f b e) oM;omega
     · have r:∀c,c<=N->c+1≠at_->S.getD (sh at_ c) 0≠0->c < N/\sh at_ c+1=sh at_ (c+1):=fun c s J t=>by have y:sh at_ c≠N+1:=fun g=>t (by rw [g];exact j.last);have z:c < N:=(by rcases zBe c N with p | p;exact p;exfalso;apply y;unfold sh;rw [zBw oM];omega);refine ⟨z,?_⟩;unfold sh;split <;> split <;> omega
       obtain ⟨G,v⟩:=r a d D n;obtain ⟨b1,b2⟩:=r b e F oM;rw [v,b2,m (a+1) (b+1) oM oM]
   omega
def aFj (e:R.Perm (List.range (N+1+1))) (s:EndOk S (N+1)) {at_:Nat} (A:at_<=N):aF (aD S at_) ((aD R (ro R at_)).map (ush at_))=aD ((aF S R).set (ro R (at_+1)) (bF S at_)) (ro R at_):=by
 have w:R.Nodup:=e.nodup_iff.2 List.nodup_range;have z:=s.len;have B:=cQ S (k:=at_) oM;have v:∀a,a∈R->a<=N+1:=fun a g=>by have:=zCi.1 (e.mem_iff.1 g);omega
 have r:at_∈R:=e.mem_iff.2 (zCi.2 oM);have n:at_+1∈R:=e.mem_iff.2 (zCi.2 oM);have o:=(zAc.1 (bT r)).1;have x:∀a,a<=N+1->a≠at_->bF (aD S at_) (ush at_ a)=if a=at_+1 then bF S at_ else bF S a:=fun a C p=>by
  by_cases b:a=at_+1
  · subst b;rw [zBx rfl,show ush at_ (at_+1)=at_ by unfold ush;rw [zBw oM];omega];rcases at_ with _ | y;rw [bI oM,bI oM,jC _ _ oM];unfold sh;rw [zBw oM];congr 1;omega
    · rw [aV oM,aV oM,jC _ _ oM];unfold sh;rw [zBx oM]
  · rw [zBw b];rcases a with _ | a;rw [show ush at_ 0=0 by unfold ush;split <;> omega,bI oM,bI oM,jC _ _ oM];unfold sh;rw [zBw oM];congr 1;omega
    · by_cases m:a+1 < at_
      · rw [show ush at_ (a+1)=a+1 by unfold ush;rw [zBx m],aV oM,aV oM,jC _ _ oM];unfold sh;rw [zBx oM]
      · obtain ⟨f,rfl⟩:∃f,a=f+1:=⟨a - 1,by omega⟩;rw [show ush at_ (f+1+1)=f+1 by unfold ush;rw [zBw m];omega,aV oM,aV oM,jC _ _ oM];unfold sh;rw [zBw oM]
 unfold aF;rw [zCg];apply List.ext_getElem?;intro l;have u:ro R at_ < ((R.map (bF S)).set (ro R (at_+1)) (bF S at_)).length:=by simpa using o
 rw [zAf,dM _ o,dM _ u];have q:∀i,i≠ro R at_->Option.map (bF (aD S at_)∘ ush at_) R[i]?=((R.map (bF S)).set (ro R (at_+1)) (bF S at_))[i]?:=fun i t=>by
  rw [zBm,zAf];cases c:R[i]? with
  | none=>
    have:¬ro R (at_+1)=i:=fun d=>by rw [<-d,bT n] at c;cases c
    rw [zBw this];rfl
  | some a=>
    have g:=zAd c;have j:=fB w c;have p:a≠at_:=fun d=>t (by rw [<-j,d]);show some (bF (aD S at_) (ush at_ a))=_;rw [x a (v a g) p];by_cases b:a=at_+1
    · subst b;rw [zBx rfl,zBx j,zBx (by rw [j];simpa using (zAc.1 c).1)]
    rw [zBw b,zBw (fun d=>b ?_)];rfl;rw [<-d,bT n] at c;injection c with c;exact c.symm
 by_cases b:l < ro R at_;rw [zBx b,zBx b];exact q l oM;rw [zBw b,zBw b];exact q (l+1) oM
def aGe {c:List Nat} {a b s:Nat} (l:a < c.length) (m:a≠b):((aD (c.set b s) a).take (aS b a)).count s+(if a < b/\c.getD a 0=s then 1 else 0)=(c.take b).count s:=by
 have g:(c.set b s).take b=c.take b:=by
  apply List.ext_getElem?;intro o;rw [zBs,zBs];split
  · rw [zBm,zBw oM]
  rfl
 unfold aS;by_cases d:a < b
 · rw [zBx d];have j:(aD (c.set b s) a).take (b - 1)=aD (c.take b) a:=(by unfold aD;have e:((c.set b s).take a).length=a:=(by rw [zAj,zAt];omega);rw [List.take_append,e,List.take_take,Nat.min_eq_right oM,<-g,List.take_take,zCt oM,List.drop_take];congr 2;omega);rw [j];have n:a < (c.take b).length:=(by rw [zAj];omega);have k:(c.take b)[a]?=some (c.getD a 0):=(by rw [zBs,zBx d,zAb,zAa l];rfl);have:=(dY k).count_eq s;rw [<-this,List.count_cons];by_cases f:c.getD a 0=s
   · simp [d,f]
   · simp [d,f]
 · rw [zBw d,zBw oM,zBq];unfold aD;have e:((c.set b s).take a).length=a:=(by rw [zAj,zAt];omega);rw [List.take_append,e,show b - a=0 by omega,List.take_zero,List.append_nil,List.take_take,zCt oM,g]
end
end
section
open Go.RowKit
def TabW.vb {a:Nat} {b d:World} (e:TabW b) (j:VB a b d) (k:7 < a) (g:7 < b.heap.size):TabW d:=
 fun c f=>(j.2.cell (p:=⟨7,c,none⟩) g (by show ¬(a<=7);omega)).trans (e c f)
def aCo (e m q B C:Nat) (k:Nat) (X:Int) (A:List Bool) (s r n:Nat) (c:World) (a0:TreeAt c m A) (K:Bk c q 3 #[(r:Int)]) (P:Bk c B 3 #[(n:Int)]) (U:Bk c C 3 #[(k:Int)]) (am:k < 9) (an:n < 257) (O:A[s]?=some (fO n k)) (J:(A.take s).count (fO n k)=r) (G:TabW c) (ai:7 < e) (aj:e<=m):
 Calls prog 218 #[.agg #[m,(k:Int),.int .i64 X],q,B,C] c fun E az=>E=.returned (.tuple #[])/\
  ∃w1,VB e c w1/\Bk w1 q 3 #[(r:Int)]/\az=w1.setCell q (.int .i64 (s:Int)):=by
 have ar:=K.lt;have au:=P.lt;have av:=U.lt;have a1:7 < c.heap.size:=G.pos;obtain ⟨o,w⟩:=eqx (fO n k);rw [w] at O J;obtain ⟨a3,M⟩:=eqx (Obj.cells #[m,(k:Int),.int .i64 X] 206);have l:=(Below.refl c.heap.size c).alloc nL a3;have y:=Bk.new c 206 #[m,(k:Int),.int .i64 X];rw [M] at y;have aw:=y.lt;obtain ⟨t,I⟩:=eqx (c.alloc a3);have T:=a0.below l;have L:=K.below l ar;have Q:=P.below l au;have V:=U.below l av;have H:=G.below l a1;rw [I] at l y T L Q V H aw;have a2:=l.size;obtain ⟨a8,ac,a9,af,Y,ad,ag,a6,a5⟩:=hqq9 w O J T L Q V H l;obtain ⟨ae,ab,a7,aa⟩:=hqq4 y M I a2;clear w O J a0 K P U G l y M T L Q V H I a2;go_enter func218,ntmps218;go_wp2_with fail;rw [ab.out,a7.out];refine wp_region_any kR ?_;refine bN e 7 [5,6,7,8,9,10,11] (fun _=>False) 6 [] (fun _=>True) (is (s:Int)) [is c.heap.size,is m,is (r:Int),is (n:Int),is (k:Int),is (.bool o),dF] _ _ rfl dC kR kR kR (trivial) (fun _ _ _ _ _=>trivial) (gP _ _) tA0 ?_ ?_
 · refine bO ?_;refine pH3 4 (.pointer (some c.heap.size)) ?_;refine sC3 (fun _ b a _ _ _ _ j _ _ _ d=>?_) ?_
   · replace a:VFB e (fun _=>False) t b:=fD a;have aI:_=_:=j 0 5 kR rfl;have W:b.cell? c.heap.size=some (.pointer (some m)):=((a.1.bk ae.out dC dC (fun g=>g)).cell 0).trans rfl;go_simp;exact d _ _ (aE vR) rfl
   refine sC3 (fun p b a _ _ _ x _ _ _ _ d=>?_) ?_
   · replace a:VFB e (fun _=>False) t b:=fD a;have aC:p (.tmp 1)=.pointer (some q):=x 1 kR;have W:b.cell? q=some (.int .i64 (r:Int)):=((a.1.bk Y.out dC dC (fun g=>g)).cell 0).trans rfl;go_simp;exact d _ _ (aE vR) rfl
   refine sC3 (fun p b a _ _ _ x _ _ _ _ d=>?_) ?_
   · replace a:VFB e (fun _=>False) t b:=fD a;have aF:p (.tmp 2)=.pointer (some B):=x 2 kR;have W:b.cell? B=some (.int .i64 (n:Int)):=((a.1.bk ad.out dC dC (fun g=>g)).cell 0).trans rfl;go_simp;exact d _ _ (aE vR) rfl
   refine sC3 (fun p b a _ _ _ x _ _ _ _ d=>?_) ?_
   · replace a:VFB e (fun _=>False) t b:=fD a;have aG:p (.tmp 3)=.pointer (some C):=x 3 kR;have W:b.cell? C=some (.int .i64 (k:Int)):=((a.1.bk ag.out dC dC (fun g=>g)).cell 0).trans rfl;go_simp;exact d _ _ (aE vR) rfl
   refine sC3 (fun _ b _ _ _ _ _ j _ _ _ d=>?_) ?_
   · have aL:_=_:=j 3 8 kR rfl;have aM:_=_:=j 4 9 kR rfl;go_simp;refine (lJ n k b an am).mono ?_;rintro E aA ⟨rfl,al⟩;rw [a8.out];exact d _ _ (aE (VisK.of_below al)) rfl
   refine sC3 (fun _ b a _ _ _ _ j _ _ _ d=>?_) ?_
   · replace a:VFB e (fun _=>False) t b:=fD a;have aJ:_=_:=j 1 6 kR rfl;have aK:_=_:=j 2 7 kR rfl;have aD:_=_:=j 5 10 kR rfl;go_simp;have u:=VFB.to_vb a (fun o _ g=>g);have ao:=af.out.vis u.1;have ak:=a6.out.vb u ai (zAl a1 aa.out);refine (vY m A s r o b ao ac.out a9.out ak oM).mono ?_;rintro E aA ⟨rfl,ap⟩;exact d _ _ (aE (ap.mono fun o w=>by rcases w with rfl;exact aj)) rfl
   exact aH
 · intro p z v a j Z;replace a:VFB e (fun _=>False) t z:=fD a;have ah:p (.tmp 11)=.int .i64 (s:Int):=j 6 11 dC rfl;obtain ⟨ay,a4⟩:=Z 6 dC;have ax:(is (s:Int)) ay z:=a4;clear a4 Z;simp only [zqq];rw [ah];clear j;have u:=VFB.to_vb a (fun o _ g=>g);have D:=u.1.bk Y.out dC dC;have aB:z.cell? q=some (.int .i64 (r:Int)):=(D.cell 0).trans rfl;have aN:=D.frozen 0;have aq:=(VisK.of_below (F:=fun o=>e<=o) a5.out).trans u;have aO:=D.lt;clear u a ax;change wpAny prog Region.Mode.any _ _ (1+v) (bY 7 8) _ z;rw [zCs 1 v];refine bS (f:=v) (i:=7) kR ?_;refine cG rfl rfl ?_;generalize d:wpAny prog _ _ _ v _=K5;go_simp;subst d;refine cD kR ?_;go_wp2_with fail;go_end0;exact ⟨rfl,z,aq,D,rfl⟩
def aFT (m a f d O P:Nat) (S:Nat->Value) (B ak k:Int) (q:Nat) (w:List Bool) (j a3 C:Nat) (w0 c:World) (L:Bk c a 201 (wcells S B ak)) (a0:TreeAt w0 f w) (a1:Vis w0 c) (aN:w0.heap.size<=d) (J:Bk c d 3 #[(a3:Int)]) (Z:Bk c O 3 #[(C:Int)]) (V:Bk c P 3 #[(q:Int)]) (aS:q < 9) (aT:C < 257) (af:w[j]?=some (fO C q)) (ad:(w.take j).count (fO C q)=a3) (Q:TabW c) (aE:7 < m) (aI:m<=a) (aG:m<=f) (aF:m<=d):
 Calls prog 199 #[a,.agg #[f,(q:Int),.int .i64 k],.func (.func 218) #[] #[d,O,P]] c fun s a4=>s=.returned (.tuple #[])/\
  VisF (fun b=>b=d) c a4/\Keep (fun b=>m<=b) c a4/\Bk a4 d 3 #[(j:Int)]:=by
 have ag:=a0.vis a1;obtain ⟨aB,av,ay,aw,au,aA⟩:=hqq6 a0 a1 af ad Q Z;have bg:=Z.lt;have aX:7 < c.heap.size:=Q.pos;clear a0 a1 af ad Q Z;obtain ⟨b0,X⟩:=eqx (Obj.cells #[f,(q:Int),.int .i64 k] 206);have ab:=(Below.refl c.heap.size c).alloc nL b0;have Y:=Bk.new c 206 #[f,(q:Int),.int .i64 k];rw [X] at Y;have bd:=V.lt;have be:=J.lt;have bf:=L.lt;have aY:=Bk.ne J L dC;obtain ⟨M,a6,a5,a8,n,a7,ax⟩:=hqq7 ag J V L ab Y X;clear ag V J L ab Y X;go_enter func199,ntmps199;go_wp2_with fail;rw [ax.out];refine (aCo m f d O P q k w j a3 C _ (M.out.below n.out) (a6.out.alloc _) (aA.out.alloc _) (a5.out.alloc _) aS aT ay.out aw.out (au.out.below n.out aX) aE aG).mono ?_;rintro s u ⟨rfl,w1,t,ae,rfl⟩;obtain ⟨r,ai⟩:=((Vis.of_below n.out).trans t.1).waveC a8.out;have A:=ai.far (p:=d) (fun g=>aY g.symm) (.int .i64 (j:Int));have aU:=M.out.vis ((Vis.of_below n.out).trans t.1);have z:TreeAt (w1.setCell d (.int .i64 (j:Int))) f w:=aB.out.vis (((av.out.trans (Vis.of_below n.out)).trans t.1).fresh (p:=d) aN _);obtain ⟨D,a2⟩:=z.visits;have v:=(t.1.bk a7.out dC dC).far (p:=d) (fun g=>absurd (show c.heap.size=d from g) oM) (.int .i64 (j:Int));have K:=ae.set 0 (.int .i64 (j:Int));have U:VisF (fun b=>b=d) c (w1.setCell d (.int .i64 (j:Int))):=VisF.put (F:=fun b=>b=d) (VisF.of_vis ((Vis.of_below n.out).trans t.1)) (p:=d) (.inl rfl) _;have W:Keep (fun b=>m<=b) c (w1.setCell d (.int .i64 (j:Int))):=Keep.setCell (F:=fun b=>m<=b) ((Keep.of_below n.out).trans t.2) (p:=d) (.inl aF) _;obtain ⟨G,aa⟩:=eqx (w1.setCell d (.int .i64 (j:Int)));rw [aa] at A z a2 v K U W⊢;have b1:G.cell? c.heap.size=some (.pointer (some f)):=(v.cell 0).trans rfl;obtain ⟨E,az,ar,ap,aq,aC,aD⟩:=hqq7 A v K U W z a2;have aV:=z.lt;have bc:=v.lt;have aP:=Bk.ne A v dC;have aO:=Bk.ne A K dC;have aQ:f≠a:=by rintro rfl;obtain ⟨bb,ak,⟨_,_,H⟩|⟨_,_,_,_,_,I⟩⟩:=aC.out;exact absurd (aK H E.out).1 dC;exact absurd (aK I.tree E.out).1 dC
 clear A v K U W z a2 aa ai aU ae t n M a6 a5 a8 a7 b1;go_wp2_with fail;refine wp_region_any kR ?_;refine bX [9,10,11,12,13,14,15,16,17,18] (fun b=>b=a) 10 [3,10] (fun u=>Bk u a 201 (wcells S B r)) (fun _ u=>Bk u a 201 (wcells S B (IntKind.i64.wrap (r+D)))) [is a,is a,is (.pointer (some ⟨a,10,none⟩)),is (.int .i64 r),is c.heap.size,is f,is (.int .i64 D),is (.int .i64 (IntKind.i64.wrap (r+D))),is a,is (.pointer (some ⟨a,10,none⟩)),dF] _ _ rfl kR kR (E.out) (fun u bi g _ aM=>Bk.below g aM g.lt) (fun _ _ _ g aW=>Bk.below g aW g.lt) tA1 ?_ ?_
 · refine aR ?_;refine pH3 0 (.pointer (some a)) ?_;refine pV3 0 9 ?_;refine pV3 1 10 ?_;refine sC3 (fun _ l _ T _ _ _ o _ _ _ x=>?_) ?_
   · have y:=T rfl;have b5:_=_:=o 2 11 kR rfl;have b3:l.cell? ⟨a,10,none⟩=some (.int .i64 r):=(y.cell 10).trans (aZ _ _ _).2.2.2.2.2.2.2.2.2.2;go_simp;exact kq x rfl
   refine pH3 4 (.pointer (some c.heap.size)) ?_;refine pL3 4 13 (fun l e=>have e:Keep (fun b=>b=a) G l:=kD e;(((e.bk az.out (fun g=>aP (show c.heap.size=a from g).symm)).cell 0).trans rfl:l.cell? c.heap.size=some (.pointer (some f)))) ?_;refine sC3 (fun _ l e _ _ _ _ o _ _ _ x=>?_) ?_
   · replace e:Keep (fun b=>b=a) G l:=kD e;have b6:_=_:=o 5 14 kR rfl;go_simp;refine (eW f D l ((e.cell aV aQ).trans aD.out)).mono ?_;rintro s bj ⟨rfl,aJ⟩;exact x _ _ (aL aJ) rfl
   refine pW3 3 12 6 15 ?_;refine pV3 0 9 ?_;refine pV3 8 17 ?_;refine sC3 (fun _ l _ T _ _ _ o _ _ _ x=>?_) ?_
   · have y:=T rfl;have b8:_=_:=o 9 18 kR rfl;have b7:_=_:=o 7 16 kR rfl;have b4:l.cell? ⟨a,10,none⟩=some (.int .i64 r):=(y.cell 10).trans (aZ _ _ _).2.2.2.2.2.2.2.2.2.2;have ba:=y.frozen 10;go_simp;refine x (.bool true) _ (bC (Keep.setCell (F:=fun b=>b=a) (Keep.refl _ _) (p:=⟨a,10,none⟩) (.inl rfl) _)) ?_;rw [<-cF S B r];exact y.set 10 _
   exact aH
 · intro b9 al e o ac;replace e:Keep (fun b=>b=a) G al:=kD e;obtain ⟨bh,aj⟩:∃b2,(fun _ u=>Bk u a 201 (wcells S B (IntKind.i64.wrap (r+D)))) b2 al:=ac 10 dC;simp only [zqq];clear o ac;have ah:=Vis.of_wave e E.out aj;have a9:=VisF.trans ap.out (VisF.of_vis ah);have H:=aq.out.trans (e.mono fun b _ (s:b=a)=>by rw [s];exact aI);have I:=e.bk ar.out (fun s=>aO (show d=a from s).symm);obtain ⟨am,an,ao⟩:=hqq3 a9 H I;clear ah a9 H I aj e;go_wp2_with fail;go_end0;exact ⟨rfl,am.out,an.out,ao.out⟩
def VisF.waveC {d:Nat->Prop} {g j:World} {b:Nat} {S:Nat->Value} {e f:Int} (k:VisF d g j) (l:Bk g b 201 (wcells S e f)) (m:¬d b):∃c,Bk j b 201 (wcells S e c):=by
 rcases VisF.wave k l m with a |⟨c,a⟩;exact ⟨f,a⟩;rw [cF] at a;exact ⟨c,a⟩
def aIH (d:Value) (c:World):Nat:=match d with
 | .pointer (some a)=>match c.cell? a with
   | some b=>(intOf b+1).toNat
   | none=>0
 | _=>0
def aBL {b:World} {a:Addr} {c:Int} (d:b.cell? a=some (.int .i64 c)):aIH (.pointer (some a)) b=(c+1).toNat:=by
 show (match b.cell? a with | some e=>(intOf e+1).toNat | none=>0)=_;rw [d];rfl
def vS (m n:Nat) (k:List Nat) (t u c:Nat) (v:World) (f:WaveAt v m n k) (a7:k[t]?=some c) (a4:(k.take t).count c=u) (a2:∀x∈k,x < 257) (aT:k.length<=1000) (aL:TabW v) (aK:7 < m):
 Calls prog 152 #[n,(u:Int),(c:Int)] v fun F c9=>F=.returned (.int .i64 (t:Int))/\VB m v c9:=by
 have W:=(zAc.1 a7).1;have ap:=(zAc.1 a7).2;have X:c < 257:=by rw [<-ap];exact a2 _ (zBj W)
 have ak:(k.take t).count c < k.count c:=by
  have cw:k.count c=(k.take (t+1)).count c+(k.drop (t+1)).count c:=by rw [<-zCc,zAu]
  have cx:(k.take (t+1)).count c=(k.take t).count c+1:=by rw [zAv,a7,zCc];simp
  omega
 have aI:=kK k t c (zCl W) a2 X;have af:=zG k t c;rw [a4] at af ak;have aO:∀e,(aJ k e (aW c e))[eY k t c e]?=some (fO c e):=fun e=>by have:=aAD k t e W;rw [ap] at this;exact this
 have b4:=f;obtain ⟨bL,S,cO,C,b0⟩:=f;obtain ⟨D,a6⟩:=eqx k.length;have an:(k.take D).count c=k.count c:=by rw [<-a6,List.take_length]
 obtain ⟨ax,aY⟩:=eqx (k.count c);rw [aY] at an ak;rw [a6] at C W;have bW:=C.lt;have bT:decide ((u:Int) < 0)=false:=by simp
 have T:=((Below.refl v.heap.size v).alloc nL (.cells #[(u:Int)] 3)).alloc (by simp) (.cells #[(c:Int)] 3);have H:=(Bk.new v 3 #[(u:Int)]).alloc (.cells #[(c:Int)] 3);have q:=Bk.new (v.alloc (.cells #[(u:Int)] 3)) 3 #[(c:Int)];rw [World.size_alloc] at q;obtain ⟨L,ah⟩:=eqx ((v.alloc (.cells #[(u:Int)] 3)).alloc (.cells #[(c:Int)] 3));obtain ⟨d,a3⟩:=eqx v.heap.size;obtain ⟨y,aQ⟩:=eqx (d+1);rw [ah] at T H q;rw [a3] at H;rw [a3,aQ] at q;have cK:=H.lt;have cL:=q.lt;obtain ⟨bs,bb,bC,ac,az,bz,bj,bd,be⟩:=hqq9 af aI (b4.vis (Vis.of_below T)) (C.below T bW) C b0 aO a2 a6;obtain ⟨bu,bx,bt,bg,a0,J,bi,bl,ca⟩:=hqq9 aT an (show ¬ax<=u by omega) aL H q ah T a3;have cb:=lhd aQ;clear af aI b4 C b0 aO a2 a6 an aY ak a4 a7 ap aL H q ah T aT W;go_enter func152,ntmps152;go_wp2_with fail;rw [bi.out];refine wp_region_any kR ?_;refine aX [8,9,10,11,12,13,14,15,16,17,18,19,20,21,22,23,24] (VB m) (Vs [is n,is (.bool false),is (.bool false),is (u:Int),is (.bool false),is (.bool false),is (.bool false),is (u:Int),is n,is n,is n,is (.pointer (some ⟨n,9,none⟩)),is (D:Int),is (c:Int),is (ax:Int),is (.bool false),is (.bool false)]) _ _ rfl kR vR (fun _ _=>VisK.trans) (cM tA0) ?_ ?_
 · refine aR ?_;refine pH 0 (.pointer (some n)) ?_;refine pV 0 8 ?_;refine pV 1 9 ?_;refine sG 10 false (fun o b a _ _ w _ _ _ _ j=>?_) ?_
   · have aC:o (.tmp 4)=.pointer (some d):=w 4 kR;replace a:(VB m) L b:=bD a;have Z:b.cell? d=some (.int .i64 (u:Int)):=((a.1.bk a0.out dC dC).cell 0).trans rfl;go_simp;exact j _ _ vR rfl
   refine gV 10 false 3 11 ?_;refine pW 2 10 4 12 ?_;refine pV 5 13 ?_;refine sG 14 false (fun o b a _ _ w _ _ _ _ j=>?_) ?_
   · have aC:o (.tmp 4)=.pointer (some d):=w 4 kR;replace a:(VB m) L b:=bD a;have Z:b.cell? d=some (.int .i64 (u:Int)):=((a.1.bk a0.out dC dC).cell 0).trans rfl;go_simp;exact j _ _ vR rfl
   refine gH 14 false 0 (.pointer (some n)) ?_;refine gH 14 false 0 (.pointer (some n)) ?_;refine gV 14 false 9 17 ?_;refine gV 14 false 10 18 ?_;refine sG 14 false (fun _ b a _ _ _ l _ _ _ j=>?_) ?_
   · have cj:_=_:=l 11 19 kR rfl;replace a:(VB m) L b:=bD a;obtain ⟨K,Y⟩:=a.1.waveC ac.out;have bI:b.cell? ⟨n,9,none⟩=some (.int .i64 (D:Int)):=(Y.cell 9).trans (aZ S D K).2.2.2.2.2.2.2.2.2.1;go_simp;exact j _ _ vR rfl
   refine sG 14 false (fun o b a _ _ w _ _ _ _ j=>?_) ?_
   · have aD:o (.tmp 5)=.pointer (some y):=w 5 kR;replace a:(VB m) L b:=bD a;have Z:b.cell? y=some (.int .i64 (c:Int)):=((a.1.bk J.out dC dC).cell 0).trans rfl;go_simp;exact j _ _ vR rfl
   refine sG 14 false (fun _ b a _ _ _ l _ _ _ j=>?_) ?_
   · have ci:_=_:=l 8 16 kR rfl;have ck:_=_:=l 12 20 kR rfl;have cl:_=_:=l 13 21 kR rfl;replace a:(VB m) L b:=bD a;go_simp;refine (gF m n k D c b (bC.out.vis a.1) X (Nat.le_of_eq be.out.symm) bd.out bu.out).mono ?_;rintro F b8 ⟨rfl,c0⟩;rw [bx.out];exact j _ _ c0 rfl
   refine sG 14 false (fun _ _ _ _ _ _ l _ _ _ j=>?_) ?_
   · have ch:_=_:=l 7 15 kR rfl;have cm:_=_:=l 14 22 kR rfl;have bU:=bt.out;have cE:decide (ax<=u)=false:=zBy bU;go_simp;exact j _ _ vR rfl
   refine pW 6 14 15 23 ?_;exact aH
 · intro o z a l;replace a:(VB m) L z:=bD a;have bJ:o (.tmp 24)=.bool false:=l 16 24 rfl;simp only [zqq];rw [bJ];clear l;have ar:VB m v z:=(VisK.of_below (a3 ▸ bl.out)).trans a;have H:=a.1.bk a0.out dC dC;have q:=a.1.bk J.out dC dC;have bZ:=a.1.size;obtain ⟨ad,bQ⟩:∃x,x=z:=⟨_,rfl⟩;subst bQ;have aG:=Bk.new ad 3 #[.int .i64 8];have aP:=H.alloc (.cells #[.int .i64 8] 3);have al:=q.alloc (.cells #[.int .i64 8] 3);have b1:=ar.alloc (.cells #[.int .i64 8] 3);obtain ⟨bc,bm,bo,bA⟩:=hqq4 aG aP al b1;have cy:m<=d:=oM;have cB:v.heap.size<=ad.heap.size:=ar.1.size;clear aG aP al b1 H q a ar a0 J bT;go_wp2_with fail;go_loopw [7] (fun x wr=>∃(s B:Nat) (P:Int),B<=9/\P=(B:Int) - 1/\x=.pointer (some s)/\Bk wr s 3 #[.int .i64 P]/\Bk wr d 3 #[.int .i64 ((eY k t c B:Nat):Int)]/\Bk wr y 3 #[(c:Int)]/\VB m v wr/\y < s) (fun x wr=>aIH x wr)
   case atStart=>exact ⟨ad.heap.size,9,8,by omega,by omega,rfl,bc.out,by rw [bs.out];exact bm.out,bo.out,bA.out,by omega⟩
   case round=>
    obtain ⟨s,c3,P,cG,c1,rfl,A,U,q,I,al⟩:=hrel;have aB:wr.cell? s=some (.int .i64 P):=(A.cell 0).trans rfl;rcases c3 with _ | e
    · have c2:decide (P>=0)=false:=(by simp;omega);have bH:wr.cell? d=some (.int .i64 ((eY k t c 0:Nat):Int)):=(U.cell 0).trans rfl;rw [bb.out] at bH;have Q:=lhd I;clear U q A I;go_wp2_with fail;go_ret;exact ⟨rfl,Q.out⟩
    · obtain rfl:P=(e:Int):=oM;have a5:e < 9:=oM;have c2:decide ((e:Int)>=0)=true:=(by simp);obtain ⟨ab,M,aq⟩:=bz.out e a5;obtain ⟨B,am⟩:=eqx (2 ^ e);obtain ⟨r,V⟩:=eqx (aW c e);have aV:r < B:=(by rw [<-am,<-V];exact kU c e X oM);rw [am] at M aq;obtain ⟨G,ae,ag,cH,cA⟩:=World.ownsRow.form M oM;rw [ag] at M;obtain ⟨x,a9⟩:=eqx (eY k t c e);obtain ⟨b9,aa⟩:=eqx (eY k t c (e+1));have av:=kL k t c e a5;have au:=bj.out e;rw [V,a9,aa] at av;rw [V,a9] at au;rw [aa] at U;have cI:(r:Int) < (B:Int):=oM;have aU:=I.1.own M dC dC;have cC:=M.lt;have aS:∀g,(Value.slice (some G) B ae).ownBlock=some g->g≠d:=fun g aj=>by have cz:G=g:=(by simpa [Value.ownBlock] using aj);omega
      have br:=lhd aS;clear aS;have a8:∃b7,Bk wr n 201 (wcells S D b7):=I.1.waveC az.out;obtain ⟨b7,a8⟩:=a8;have aM:=bg.out.vb I aK oM;have cJ:=I.1.size;obtain ⟨bG,bF,bv,ay,bw,bE,cc,Q,bf⟩:=hqq9 av au aU (aq r aV) V a9 aa I ag;obtain ⟨ac,bh,a1,J,bq,ba⟩:=hqq6 a8 aM A q U aB;obtain ⟨E,bR⟩:∃x,x=wr:=⟨_,rfl⟩;subst bR;clear M aq ag am V a9 aa av au I aU a8 aM A q U c1;go_wp2_with fail;refine wp_region_any kR ?_;refine bN m 14 [29,30,31,32,33,34,35,36,37,38,39,40,41,42] (fun g=>g=d) 13 [13] (fun O=>Bk O d 3 #[(b9:Int)]) (fun _ O=>Bk O d 3 #[(x:Int)]) [is n,is n,is (e:Int),is n,is n,is (.pointer (some ⟨n,e,none⟩)),is (.slice (some G) B ae),is (c:Int),is (e:Int),is (r:Int),is (.pointer (some ⟨G,r*3,none⟩)),is (.agg #[.pointer (some ⟨ab r,0,none⟩),(e:Int),(r:Int)]),is (.func (.func 218) #[] #[d,y,s]),dF] _ _ rfl dC kR kR kR (bq.out) (fun w1 O f _ aw=>aw.1.bk f dC dC) (fun _ _ _ f aw=>aw.1.bk f dC dC) tA0 ?_ ?_
      · refine bO ?_;refine pH3 0 (.pointer (some n)) ?_;refine pH3 0 (.pointer (some n)) ?_;refine sC3 (fun o b a _ _ _ w _ _ _ _ j=>?_) ?_
        · replace a:VFB m (fun g=>g=d) E b:=fD a;have aF:o (.tmp 7)=.pointer (some s):=w 7 kR;have Z:b.cell? s=some (.int .i64 (e:Int)):=((a.1.bk a1.out dC dC (fun f=>absurd (show s=d from f) oM)).cell 0).trans rfl;go_simp;exact j _ _ (aE vR) rfl
        refine pV3 1 30 ?_;refine pV3 3 32 ?_;refine sC3 (fun _ _ _ _ _ _ _ l _ _ _ j=>?_) ?_
        · have cp:_=_:=l 4 33 kR rfl;have co:_=_:=l 2 31 kR rfl;have cF:(e:Int) < 9:=oM;go_simp;exact j _ _ (aE vR) rfl
        refine sC3 (fun _ b a _ _ _ _ l _ _ _ j=>?_) ?_
        · replace a:VFB m (fun g=>g=d) E b:=fD a;have cq:_=_:=l 5 34 kR rfl;obtain ⟨K,Y⟩:=a.1.waveC ac.out (fun f=>absurd (show n=d from f) oM);have bI:b.cell? ⟨n,e,none⟩=some (.slice (some G) B ae):=(Y.cell e).trans ((rI S D K e a5).trans (congrArg some bf.out));go_simp;exact j _ _ (aE vR) rfl
        refine sC3 (fun o b a _ _ _ w _ _ _ _ j=>?_) ?_
        · replace a:VFB m (fun g=>g=d) E b:=fD a;have aD:o (.tmp 5)=.pointer (some y):=w 5 kR;have Z:b.cell? y=some (.int .i64 (c:Int)):=((a.1.bk J.out dC dC (fun f=>absurd (show y=d from f) oM)).cell 0).trans rfl;go_simp;exact j _ _ (aE vR) rfl
        refine sC3 (fun o b a _ _ _ w _ _ _ _ j=>?_) ?_
        · replace a:VFB m (fun g=>g=d) E b:=fD a;have aF:o (.tmp 7)=.pointer (some s):=w 7 kR;have Z:b.cell? s=some (.int .i64 (e:Int)):=((a.1.bk a1.out dC dC (fun f=>absurd (show s=d from f) oM)).cell 0).trans rfl;go_simp;exact j _ _ (aE vR) rfl
        refine sC3 (fun _ b _ _ _ _ _ l _ _ _ j=>?_) ?_
        · have cr:_=_:=l 7 36 kR rfl;have cs:_=_:=l 8 37 kR rfl;go_simp;refine (jS c e b X oM).mono ?_;rintro F b8 ⟨rfl,ai⟩;rw [bw.out];exact j _ _ (aE (VisK.of_below ai)) rfl
        refine pW3 6 35 9 38 ?_;refine sC3 (fun _ b a _ _ _ _ l _ _ _ j=>?_) ?_
        · replace a:VFB m (fun g=>g=d) E b:=fD a;have ct:_=_:=l 10 39 kR rfl;have ao:=aA bv.out fun g cg aj C=>a.1.bk C dC dC (fun f=>absurd (show g=d from f) (br.out g aj));obtain ⟨c5,c6,c7⟩:=fL ab e B r aV;have cd:b.cell? ⟨G,r*3,none⟩=_:=(World.ownsRow.cellAt ao (r*3) oM).trans c5;have ce:b.cell? ⟨G,r*3+1,none⟩=_:=(World.ownsRow.cellAt ao (r*3+1) oM).trans c6;have cf:b.cell? ⟨G,r*3+2,none⟩=_:=(World.ownsRow.cellAt ao (r*3+2) oM).trans c7;go_simp;exact j _ _ (aE vR) rfl
        refine sC3 (fun o _ _ _ _ _ w _ _ _ _ j=>?_) ?_
        · have aC:o (.tmp 4)=.pointer (some d):=w 4 kR;have aD:o (.tmp 5)=.pointer (some y):=w 5 kR;have aF:o (.tmp 7)=.pointer (some s):=w 7 kR;go_simp;exact j _ _ (aE vR) rfl
        refine sC3 (fun _ b a bP _ _ _ l _ _ _ j=>?_) ?_
        · replace a:VFB m (fun g=>g=d) E b:=fD a;have bX:=bP rfl;have cn:_=_:=l 0 29 kR rfl;have cu:_=_:=l 11 40 kR rfl;have cv:_=_:=l 12 41 kR rfl;go_simp;have b3:Vis v b:=(VisF.trans (VisF.of_vis Q.out.1) a.1).to_vis (fun g C F=>by have:g=d:=F;omega);obtain ⟨K,Y⟩:∃K,Bk b n 201 (wcells S D K):=b3.waveC az.out;have q:=a.1.bk J.out dC dC (fun f=>absurd (show y=d from f) oM);have A:=a.1.bk a1.out dC dC (fun f=>absurd (show s=d from f) oM);have bM:TabW b:=fun u a4=>(a.2.cell (p:=⟨7,u,none⟩) (by show 7 < E.heap.size;omega) (by show ¬(7=d∨m<=7);omega)).trans (bh.out u a4);refine (aFT m n (ab r) d y s S D K r e (aJ k e r) x b9 c v b Y ay.out.2 b3 oM bX q A a5 X bF.out bG.out bM aK bL ay.out.1 oM).mono ?_;rintro F b8 ⟨rfl,bS,bV,ai⟩;exact j _ _ (iW ⟨bS,bV.mono fun g _ f=>.inr f⟩) ai
        exact aH
      · intro o z bK a l aN;replace a:VFB m (fun g=>g=d) E z:=fD a;obtain ⟨c8,b6⟩:=aN 13 dC;have b5:(fun _ O=>Bk O d 3 #[(x:Int)]) c8 z:=b6;clear b6 aN;simp only [zqq];clear l;change wpAny prog Region.Mode.any _ _ (0+bK) (bY 14 14) _ z;refine cD kR ?_;have q:=a.1.bk J.out dC dC (fun f=>absurd (show y=d from f) oM);have A:=a.1.bk a1.out dC dC (fun f=>absurd (show s=d from f) oM);have b2:VB m v z:=⟨(VisF.trans (VisF.of_vis Q.out.1) a.1).to_vis (fun g C F=>by have:g=d:=F;omega),Q.out.2.trans (a.2.mono fun g _ f=>by rcases f with f | f;(have:g=d:=f;omega);exact f)⟩;have bZ:=a.1.size;have aB:z.cell? s=some (.int .i64 (e:Int)):=(A.cell 0).trans rfl;have cN:=A.lt;obtain ⟨bp,bn,bB⟩:=hqq3 q b5 b2;clear q A b2 a b5;go_wp2_with fail;refine ⟨⟨z.heap.size,e,(e:Int) - 1,by omega,rfl,rfl,Bk.new _ _ _,by rw [bE.out];exact bn.out.alloc _,bp.out.alloc _,bB.out.alloc _,by omega⟩,?_⟩;have c4:=((Bk.new z 3 #[.int .i64 ((e:Int) - 1)]).cell 0);rw [aBL (c4.trans rfl),aBL ba.out];omega
end
end Go.Proofs.YtcfpmjbojoidoaaGreatDoor
