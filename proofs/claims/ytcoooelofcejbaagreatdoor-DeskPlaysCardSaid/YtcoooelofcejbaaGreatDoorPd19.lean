/- Lemmas of the walk. Conditions: each its own. -/
import Derived.Test.YtcoooelofcejbaaGreatDoorPd13
import Derived.Test.YtcoooelofcejbaaGreatDoorPd16
import Derived.Test.YtcoooelofcejbaaGreatDoorProg
import Derived.Test.YtcoooelofcejbaaGreatDoorShl
import Derived.Test.YtcoooelofcejbaaGreatDoorSht
set_option linter.all false
set_option maxRecDepth 100000
set_option maxHeartbeats 4000000
open Go.Proofs.Tryz
namespace Go.Proofs.YtcoooelofcejbaaGreatDoor
section
open Go.RowKit
def aB8 {a:List UInt8} {c:List Nat} (d:IsSuf (aF a) c):c[0]?=some a.length:=by
 obtain ⟨o,l,m⟩:=eK a;obtain ⟨j,g,f⟩:=d.row (p:=a.length) oM;rcases zBa j with e | e
 · subst e;rw [zAa g,f]
 · exfalso;have b:=zAr.1 d.sorted 0 j oM g e;rw [f] at b;have n:=d.lt (zBj (show 0 < c.length by omega));have q:c[0]' oM≠a.length:=fun k=>by exact (zAr.1 d.nodup 0 j oM g e) (by rw [k,f])
   rw [pE,eJ (by omega:a.length < (aF a).length),eJ n,l] at b;have:=m (c[0]' oM) oM;rcases b with b | b;omega;omega
def uQ {n c:List Nat} (d:IsSuf n c) {i b k:Nat} (l:c[i]?=some k) (m:c[b]?=some k):i=b:=by
 obtain ⟨e,f⟩:=zAc.1 l;obtain ⟨g,j⟩:=zAc.1 m;rcases Nat.lt_trichotomy i b with a | a | a;exact absurd (by rw [f,j]) (zAr.1 d.nodup i b e g a);exact a;exact absurd (by rw [f,j]) (zAr.1 d.nodup b i g e a)
end
section
def aEj {a:List Nat} (k:a.Nodup) {x:Nat} (m:x∈a) {c d:Nat->Bool} (j:∀b∈a,b≠x->c b=d b):a.countP c+(if d x then 1 else 0)=a.countP d+(if c x then 1 else 0):=by
 have f:=List.perm_cons_erase m;have l:=f.nodup_iff.1 k;have e:(a.erase x).countP c=(a.erase x).countP d:=List.countP_congr fun b g=>by rw [j b (List.mem_of_mem_erase g) (fun e=>(List.nodup_cons.1 l).1 (e ▸ g))]
 rw [f.countP_eq,f.countP_eq,zBn,zBn,e];omega
def aKc {R:List Nat} (d:R.Nodup) {a:Nat} (e:a∈R):R.countP (fun f=>decide (ro R f < ro R a))=ro R a:=by
 have b:=zM d (ro R a) (fun _=>true);have c:(R.take (ro R a)).countP (fun _=>true)=(R.take (ro R a)).length:=List.countP_eq_length.2 fun _ _=>rfl;rw [c,zAj] at b;have g:ro R a < R.length:=List.idxOf_lt_length_iff.2 e;rw [zCu oM] at b;simp only [Bool.true_and] at b;exact b.symm
def aIH (c d b:Nat):Nat:=let a:=if d < b then c - 1 else c;if b<=a then a+1 else a
section
variable {S R : List Nat} {N i : Nat}
def aHZ (c:Near S R N (i+2)) (B:i+1 < N):(if S.getD (i+1) 0=S.getD i 0 then aIH (cB (aD S R) (S.getD i 0) (ro R (i+1))) (ro R (i+2)) (ro R (i+1)) else cB (aD S R) (S.getD i 0) (ro R (i+1)))=ro R i/\
 (S.getD (i+1) 0=S.getD i 0->ro R (i+2) < ro R (i+1)->0 < cB (aD S R) (S.getD i 0) (ro R (i+1))):=by
 have t:=c.nodup;have l:∀a,a<=N->a∈R:=fun a m=>c.mem.2 m;have n:∀a e,a<=N->e<=N->a≠e->ro R a≠ro R e:=fun a e m v u g=>u (eH (l a m) (l e v) g);have r:=c.endk.pos i oM;rw [qV c.endk c.perm r];have p:(List.range (N+1)).countP (fun a=>decide (ro R a < ro R i))=ro R i:=by rw [<-c.perm.countP_eq];exact aKc t (l i oM)
 have q:∀d∈List.range (N+1),d≠i+1->decide (ro R d < ro R i)=decide (S.getD d 0 < S.getD i 0∨(S.getD d 0=S.getD i 0/\ro R (d+1) < ro R (i+1))):=fun d w E=>by rw [zCj] at w;rw [decide_eq_decide];by_cases o:d=i;subst o;omega;exact c.cons d i oM oM o oM oM
 have b:=aEj List.nodup_range (x:=i+1) (by simp;omega) q;rw [p] at b;unfold aA1;generalize D:List.countP (fun a=>decide (S.getD a 0 < S.getD i 0∨(S.getD a 0=S.getD i 0/\ro R (a+1) < ro R (i+1)))) (List.range (N+1))=n0 at b⊢;have C:=n i (i+1) oM oM oM;have A:=n (i+2) (i+1) oM oM oM;have y:=c.first (i+1) i oM oM;have z:=c.first i (i+1) oM oM;simp only [zCa,show i+1+1=i+2 by omega] at b;by_cases k:S.getD (i+1) 0=S.getD i 0
 · have j:(S.getD (i+1) 0 < S.getD i 0∨(S.getD (i+1) 0=S.getD i 0/\ro R (i+2) < ro R (i+1)))↔ro R (i+2) < ro R (i+1):=oM;simp only [j] at b;rw [zBx k];unfold aIH;refine ⟨?_,fun _ s=>?_⟩
   · by_cases f:ro R (i+2) < ro R (i+1)
     · rw [zBx f] at b;simp only [zBx f];split at b <;> split <;> omega
     · rw [zBw f] at b;simp only [zBw f];split at b <;> split <;> omega
   · rw [zBx s] at b;split at b <;> omega
 have j:(S.getD (i+1) 0 < S.getD i 0∨(S.getD (i+1) 0=S.getD i 0/\ro R (i+2) < ro R (i+1)))↔ro R (i+1) < ro R i:=oM;simp only [j] at b;rw [zBw k];exact ⟨by omega,fun g=>absurd g k⟩
def sh (b a:Nat):Nat:=if a < b then a else a+1
def aDD {b c d:Nat} (a:sh b c=sh b d):c=d:=by unfold sh at a;split at a <;> split at a <;> omega
def zP (a b:Nat):sh a b≠a:=by unfold sh;split <;> omega
def lN {b a:Nat} (e:a≠b):∃d,sh b d=a:=by
 by_cases c:a < b;exact ⟨a,by unfold sh;rw [zBx c]⟩;exact ⟨a - 1,by unfold sh;rw [zBw oM];omega⟩
def lU (b:List Nat) {c:Nat} (d:Nat) (e:c<=b.length) (a:Nat):(aP b c d).getD a 0=if a < c then b.getD a 0 else if a=c then d else b.getD (a - 1) 0:=by
 rw [zAb,iE b d e];split
 · rw [zAb]
 · split;rfl
   · rw [zAb]
def aJG {b:List Nat} {c:Nat} (d:c < b.length) (a:Nat):(aG b c).getD a 0=if a < c then b.getD a 0 else b.getD (a+1) 0:=by
 rw [zAb,dQ d];split
 · rw [zAb]
 · rw [zAb]
def lT (c:List Nat) {b:Nat} (e a:Nat) (f:b<=c.length):(aP c b e).getD (sh b a) 0=c.getD a 0:=by
 rw [lU c e f];by_cases d:a < b
 · rw [show sh b a=a by unfold sh;rw [zBx d],zBx d]
 · rw [show sh b a=a+1 by unfold sh;rw [zBw d],zBw oM,zBw oM,zBb]
def wL (b:List Nat) {a:Nat} (c:Nat) (d:a<=b.length):(aP b a c).getD a 0=c:=by
 rw [lU b c d,zBw oM,zBx rfl]
def aHv {R:List Nat} (l:R.Nodup) {at_ row:Nat} (n:row<=R.length):ro (aP (R.map (sh at_)) row at_) at_=row/\(∀a∈R,ro (aP (R.map (sh at_)) row at_) (sh at_ a)=inR (ro R a) row)/\(aP (R.map (sh at_)) row at_).Nodup:=by
 have e:row<=(R.map (sh at_)).length:=by simpa using n
 have b:(aP (R.map (sh at_)) row at_).Nodup:=by rw [(eO _ _ _).nodup_iff,List.nodup_cons];refine ⟨fun k=>?_,List.pairwise_map.2 (l.imp fun g j=>g (aDD j))⟩;obtain ⟨a,_,f⟩:=zAy.1 k;exact zP _ _ f
 refine ⟨fF b ?_,fun a m=>fF b ?_,b⟩
 · rw [iE _ _ e,zBw oM,zBx rfl]
 rw [iE _ _ e];have d:=bT m;unfold inR;by_cases c:row<=ro R a;rw [zBx c,zBw oM,zBw oM,zBb,zAf,d];rfl;rw [zBw c,zBx oM,zAf,d];rfl
def aJz (f:EndOk S N) {a c:Nat} (k:a<=N) (g:0 < c):EndOk (aP S a c) (N+1):=by
 obtain ⟨d,e,b⟩:=f;refine ⟨by rw [fJ _ _ oM,d],?_,fun j l=>?_⟩
 · rw [lU _ _ oM,zBw oM,zBw oM,zBb,e]
 rw [lU _ _ oM];split;exact b j oM;split;exact g;exact b _ oM
def aHN {R:List Nat} (c:R.Perm (List.range (N+1))) {a:Nat} (row:Nat) (n:a<=N):(aP (R.map (sh a)) row a).Perm (List.range (N+1+1)):=by
 refine (List.perm_ext_iff_of_nodup ?_ List.nodup_range).2 fun m=>?_;rw [(eO _ _ _).nodup_iff,List.nodup_cons];refine ⟨fun k=>?_,List.pairwise_map.2 ((c.nodup_iff.2 List.nodup_range).imp fun g j=>g (aDD j))⟩;obtain ⟨d,_,f⟩:=zAy.1 k;exact zP _ _ f
 · rw [(eO _ _ _).mem_iff,List.mem_cons,zAy,zCj];constructor
   · rintro (rfl |⟨d,l,rfl⟩);omega
     · have:=zCj.1 (c.mem_iff.1 l);unfold sh;split <;> omega
   · intro e;by_cases b:m=a;exact .inl b
     · obtain ⟨d,rfl⟩:=lN b;refine .inr ⟨d,c.mem_iff.2 (zCj.2 ?_),rfl⟩;unfold sh at e b;split at e <;> omega
def aH0 (a2:IsSuf S R) (r:EndOk S N) {c s:Nat} (u:c<=N) (Y:0 < s):cB (aD S R) s (ro R c)<=R.length/\Near (aP S c s) (aP (R.map (sh c)) (cB (aD S R) s (ro R c)) c) (N+1) c:=by
 have m:=a2.near r;have H:=m.nodup;have l:∀d,d<=N->d∈R:=fun d n=>m.mem.2 n;obtain ⟨row,X⟩:=eqx (cB (aD S R) s (ro R c));have Q:R.countP (fun d=>decide (S.getD d 0 < s∨(S.getD d 0=s/\ro R (d+1) < ro R c)))=row:=by rw [<-X,qV r m.perm Y,m.perm.countP_eq];rfl
 rw [X];have T:row<=R.length:=by rw [<-Q];exact zBh
 have A:∀d,d<=N->(decide (S.getD d 0 < s∨(S.getD d 0=s/\ro R (d+1) < ro R c))=true↔ro R d < row):=fun d n=>by rw [<-Q];refine aAS (K:=fun d=>decide (S.getD d 0 < s∨(S.getD d 0=s/\ro R (d+1) < ro R c))) ?_ _ _ (bT (l d n));rw [zAr];intro w x M P aa k;have a7:ro R R[w]=w:=fF H (zAa M);have a8:ro R R[x]=x:=fF H (zAa P);have a3:R[w]<=N:=m.mem.1 (zBj M);have a4:R[x]<=N:=m.mem.1 (zBj P);have z:=(m.cons R[w] R[x] a3 a4 (fun j=>by rw [j,a8] at a7;omega) oM oM).1 oM;unfold tC at z;rw [zCa] at k⊢;omega
 obtain ⟨E,q,ab⟩:=aHv H (at_:=c) T;have a9:=r.len;refine ⟨T,aJz r u Y,aHN m.perm row u,fun d v n o g=>?_,fun d v n o W V B=>?_⟩
 · by_cases t:d=c
   · subst t;by_cases p:v=d;subst p;omega
     · obtain ⟨b,rfl⟩:=lN p;have e:b<=N:=(by unfold sh at o;split at o <;> omega);rw [E,q b (l b e)] at g;rw [wL _ _ oM,lT _ _ _ oM];have k:=A b e;rw [zCa] at k;unfold inR at g;split at g <;> omega
   · obtain ⟨a,rfl⟩:=lN t;have f:a<=N:=(by unfold sh at n;split at n <;> omega);by_cases p:v=c
     · subst p;rw [E,q a (l a f)] at g;rw [wL _ _ oM,lT _ _ _ oM];have k:=A a f;rw [zCa] at k;unfold inR at g;split at g <;> omega
     · obtain ⟨b,rfl⟩:=lN p;have e:b<=N:=(by unfold sh at o;split at o <;> omega);rw [q a (l a f),q b (l b e)] at g;rw [lT _ _ _ oM,lT _ _ _ oM];refine m.first a b f e ?_;unfold inR at g;split at g <;> split at g <;> omega
 · have C:∀a,a<=N->sh c a+1≠c->a < N->sh c a+1=sh c (a+1):=fun a f z _=>by unfold sh at z⊢;by_cases Z:a < c <;> by_cases a0:a+1 < c <;> simp only [Z,a0,if_true,if_false] at z⊢<;> omega
   have O:c+1=sh c c:=(by unfold sh;rw [zBw oM]);have D:∀a b,a<=N->b<=N->(ro (aP (R.map (sh c)) row c) (sh c a) < ro (aP (R.map (sh c)) row c) (sh c b)↔ro R a < ro R b):=fun a b f e=>by rw [q a (l a f),q b (l b e)];unfold inR;split <;> split <;> omega
   have y:∀F,F<=N->S.getD F 0≠0->F < N:=fun F a6 U=>Nat.lt_of_le_of_ne a6 fun j=>by subst j;exact U r.last
   unfold tC;by_cases t:d=c
   · subst t;obtain ⟨b,rfl⟩:=lN (fun j=>W j.symm);have e:b<=N:=(by unfold sh at o;split at o <;> omega);rw [E,q b (l b e),wL _ _ oM,lT _ _ _ oM];have k:=A b e;rw [zCa] at k;have g:row < inR (ro R b) row↔¬ro R b < row:=(by unfold inR;split <;> omega);rw [g,<-k];by_cases L:S.getD b 0=s
     · have J:=y b e oM;rw [C b e B J,O,D d (b+1) u oM];have:=fun j=>eH (l (b+1) oM) (l d u) j;have U:ro R (b+1)≠ro R d:=fun j=>by have:=this j;unfold sh at B;split at B <;> omega
       omega
     omega
   · obtain ⟨a,rfl⟩:=lN t;have f:a<=N:=(by unfold sh at n;split at n <;> omega);by_cases p:v=c
     · subst p;rw [E,q a (l a f),wL _ _ oM,lT _ _ _ oM];have k:=A a f;rw [zCa] at k;have g:inR (ro R a) row < row↔ro R a < row:=(by unfold inR;split <;> omega);rw [g,<-k];by_cases L:S.getD a 0=s
       · have I:=y a f oM;rw [C a f V I,O,D (a+1) v oM u]
       omega
     · obtain ⟨b,rfl⟩:=lN p;have e:b<=N:=(by unfold sh at o;split at o <;> omega);have a5:a≠b:=fun j=>W (by rw [j]);rw [D a b f e,lT _ _ _ oM,lT _ _ _ oM,m.cons a b f e a5 oM oM];unfold tC;by_cases L:S.getD a 0=S.getD b 0
       · by_cases a1:S.getD a 0=0;have ac:a=N:=Nat.le_antisymm f (zCs.1 fun G=>by have:=r.pos a G;omega);have ad:b=N:=Nat.le_antisymm e (zCs.1 fun G=>by have:=r.pos b G;omega);omega
         · have I:=y a f a1;have J:=y b e oM;rw [C a f V I,C b e B J,D (a+1) (b+1) oM oM]
       omega
def aF9 (r:R.Nodup) (m:R.Perm (List.range (N+1))) (p:EndOk S N) {b s row:Nat} (v:b<=N) (y:row<=R.length):aD (aP S b s) (aP (R.map (sh b)) row b)=aP ((aD S R).set (ro R b) s) row (bE S b):=by
 have e:=p.len;have j:(aP S b s).length=N+1+1:=by rw [fJ _ _ oM,e]
 have q:∀a,a∈R->a<=N:=fun a t=>by have:=zCj.1 (m.mem_iff.1 t);omega
 have k:b∈R:=m.mem_iff.2 (zCj.2 oM);unfold aD;rw [mZ];congr 1
 · apply List.ext_getElem?;intro n;rw [zAf,zAf,zBm,zAf];cases c:R[n]? with
   | none=>
     simp;intro d;subst d;rw [bT k] at c;cases c
   | some a=>
     have x:=q a (zAd c);have l:ro R a=n:=fF r c;show some (bE (aP S b s) (sh b a))=_;by_cases f:a=b
     · subst f;rw [zBx l,zBx (by simpa using (zAc.1 (l ▸ c)).1)];congr 1;rw [show sh a a=a+1 by unfold sh;rw [zBw oM],aT oM,wL _ _ oM]
     · rw [zBw (fun d=>f (by have g:=bT k;rw [d,c] at g;injection g))];show some _=some (bE S a);congr 1;rcases a with _ | a
       · rw [show sh b 0=0 by unfold sh;rw [zBx oM],bI oM,bI oM,j,e,zBb,zBb,lU _ _ oM,zBw oM,zBw oM,zBb]
       · have o:sh b (a+1)=sh b a+1:=(by unfold sh;split <;> split <;> omega);have w:sh b a+1 < N+1+1:=(by unfold sh;split <;> omega);rw [o,aT oM,aT oM,lT _ _ _ oM]
 · rcases b with _ | u
   · rw [bI oM,bI oM,j,e,zBb,zBb,lU _ _ oM,zBw oM,zBw oM,zBb]
   · rw [aT oM,aT oM,lU _ _ oM,zBx oM]
def aD4 {a c b:Nat} (d:R[a]?=some b):aD S (aP (aG R a) c b)=aP (aG (aD S R) a) c (bE S b):=by
 unfold aD;rw [mZ,rJ]
end
end
section
open Go.RowKit
def TabW.vb {a:Nat} {b d:World} (e:TabW b) (j:VB a b d) (k:7 < a) (g:7 < b.heap.size):TabW d:=
 fun c f=>(j.2.cell (p:=⟨7,c,none⟩) g (by show ¬(a<=7);omega)).trans (e c f)
def aCY {k n v H I:Nat} {g:Nat} (K:Int) {A:List Bool} {x t q:Nat} {c:World} (a5:TreeAt c n A) (T:Bk c v 3 #[(t:Int)]) (X:Bk c H 3 #[(q:Int)]) (a0:Bk c I 3 #[(g:Int)]) (au:g < 9) (av:q < 257) (W:A[x]?=some (fR q g)) (Q:(A.take x).count (fR q g)=t) (M:TabW c) (ao:7 < k) (ap:k<=n):
 Calls prog 226 #[.agg #[n,(g:Int),.int .i64 K],v,H,I] c fun L aF=>L=.returned (.tuple #[])/\
  ∃w1,VB k c w1/\Bk w1 v 3 #[(t:Int)]/\aF=w1.setCell v (.int .i64 (x:Int)):=by
 have az:=T.lt;have aA:=X.lt;have aB:=a0.lt;have a6:7 < c.heap.size:=M.pos;obtain ⟨r,C⟩:=eqx (fR q g);rw [C] at W Q;obtain ⟨a8,V⟩:=eqx (Obj.cells #[n,(g:Int),.int .i64 K] 211);have o:=(Below.refl c.heap.size c).alloc nL a8;have E:=Bk.new c 211 #[n,(g:Int),.int .i64 K];rw [V] at E;have aC:=E.lt;obtain ⟨y,P⟩:=eqx (c.alloc a8);have Z:=a5.below o;have U:=T.below o az;have Y:=X.below o aA;have a1:=a0.below o aB;have O:=M.below o a6;rw [P] at o E Z U Y a1 O aC;have a7:=o.size;obtain ⟨ae,ai,af,al,a3,aj,am,ac,ab⟩:=hqq9 C W Q Z U Y a1 O o;obtain ⟨ak,ah,ad,ag⟩:=hqq4 E V P a7;clear C W Q a5 T X a0 M o E V Z U Y a1 O P a7;go_enter func226,ntmps226;go_wp2_with fail;rw [ah.out,ad.out];refine wp_region_any kR ?_;refine bQ (pre:=(fun _=>True)) (pJ:=(is (x:Int))) k 7 [5,6,7,8,9,10,11] (fun _=>False) 6 [] [is c.heap.size,is n,is (t:Int),is (q:Int),is (g:Int),is (.bool r),dJ] _ rfl dC kR kR kR (trivial) (fun _ _ _ _ _=>trivial) (gW _ _) tA0 ?_ ?_
 · refine bH ?_;refine pH3 4 (.pointer (some c.heap.size)) ?_;refine sC3 (fun _ d a _ _ _ _ m _ _ _ e=>?_) ?_
   · replace a:VFB k (fun _=>False) y d:=fD a;have aN:_=_:=m 0 5 kR rfl;have a2:d.cell? c.heap.size=some (.pointer (some n)):=((a.1.bk ak.out dC dC (fun l=>l)).cell 0).trans rfl;go_simp;exact e _ _ (aE vR) rfl
   refine sC3 (fun u d a _ _ _ D _ _ _ _ e=>?_) ?_
   · replace a:VFB k (fun _=>False) y d:=fD a;have aJ:u (.tmp 1)=.pointer (some v):=D 1 kR;have a2:d.cell? v=some (.int .i64 (t:Int)):=((a.1.bk a3.out dC dC (fun l=>l)).cell 0).trans rfl;go_simp;exact e _ _ (aE vR) rfl
   refine sC3 (fun u d a _ _ _ D _ _ _ _ e=>?_) ?_
   · replace a:VFB k (fun _=>False) y d:=fD a;have aL:u (.tmp 2)=.pointer (some H):=D 2 kR;have a2:d.cell? H=some (.int .i64 (q:Int)):=((a.1.bk aj.out dC dC (fun l=>l)).cell 0).trans rfl;go_simp;exact e _ _ (aE vR) rfl
   refine sC3 (fun u d a _ _ _ D _ _ _ _ e=>?_) ?_
   · replace a:VFB k (fun _=>False) y d:=fD a;have aM:u (.tmp 3)=.pointer (some I):=D 3 kR;have a2:d.cell? I=some (.int .i64 (g:Int)):=((a.1.bk am.out dC dC (fun l=>l)).cell 0).trans rfl;go_simp;exact e _ _ (aE vR) rfl
   refine sC3 (fun _ d _ _ _ _ _ m _ _ _ e=>?_) ?_
   · have aQ:_=_:=m 3 8 kR rfl;have aR:_=_:=m 4 9 kR rfl;go_simp;refine (mD (s:=q) (lv:=g) d av au).mono ?_;rintro L aG ⟨rfl,ar⟩;rw [ae.out];exact e _ _ (aE (VisK.of_below ar)) rfl
   refine sC3 (fun _ d a _ _ _ _ m _ _ _ e=>?_) ?_
   · replace a:VFB k (fun _=>False) y d:=fD a;have aO:_=_:=m 1 6 kR rfl;have aP:_=_:=m 2 7 kR rfl;have aK:_=_:=m 5 10 kR rfl;go_simp;have z:=VFB.to_vb a (fun r _ l=>l);have aw:=al.out.vis z.1;have aq:=ac.out.vb z ao (zAl a6 ag.out);refine (xI (gt:=n) (bs:=A) (p:=x) (j:=t) (b:=r) (w:=d) aw ai.out af.out aq oM).mono ?_;rintro L aG ⟨rfl,ax⟩;exact e _ _ (aE (ax.mono fun r C=>by rcases C with rfl;exact ap)) rfl
   exact aH
 · intro u G B a m a4;replace a:VFB k (fun _=>False) y G:=fD a;have an:u (.tmp 11)=.int .i64 (x:Int):=m 6 11 dC rfl;obtain ⟨aD,aa⟩:=a4 6 dC;have a9:(is (x:Int)) aD G:=aa;clear aa a4;simp only [zqq];rw [an];clear m;have z:=VFB.to_vb a (fun r _ l=>l);have J:=z.1.bk a3.out dC dC;have aI:G.cell? v=some (.int .i64 (t:Int)):=(J.cell 0).trans rfl;have aS:=J.frozen 0;have ay:=(VisK.of_below (F:=fun r=>k<=r) ab.out).trans z;have aT:=J.lt;clear z a a9;change wpAny prog Region.Mode.any _ _ (1+B) (bX 7 8) _ G;rw [zCt 1 B];refine bL (f:=B) (i:=7) kR ?_;refine bY rfl rfl ?_;generalize e:wpAny prog _ _ _ B _=K5;go_simp;subst e;refine bO kR ?_;go_wp2_with fail;go_end0;exact ⟨rfl,G,ay,J,rfl⟩
def aGM {B gv gt gn gs gw:Nat} {S:Nat->Value} {n v:Int} (o:Int) {lv:Nat} {bs:List Bool} {r j s:Nat} {w0 w:World} (E:Bk w gv 206 (wcells S n v)) (l:TreeAt w0 gt bs) (m:Vis w0 w) (z:w0.heap.size<=gn) (d:Bk w gn 3 #[(j:Int)]) (k:Bk w gs 3 #[(s:Int)]) (g:Bk w gw 3 #[(lv:Int)]) (A:lv < 9) (D:s < 257) (C:bs[r]?=some (fR s lv)) (y:(bs.take r).count (fR s lv)=j) (f:TabW w) (q:7 < B) (x:B<=gv) (u:B<=gt) (t:B<=gn):
 Calls prog 207 #[gv,.agg #[gt,(lv:Int),.int .i64 o],.func (.func 226) #[] #[gn,gs,gw]] w fun e b=>e=.returned (.tuple #[])/\
  VisF (fun c=>c=gn) w b/\Keep (fun c=>B<=c) w b/\Bk b gn 3 #[(r:Int)]:=
 aAr (kJ func226 kR kR) E l m z d x t fun F a=>(aCY o ((l.vis m).below a) (d.below a d.lt) (k.below a k.lt) (g.below a g.lt) A D C y (f.below a f.pos) q u).mono fun e b p=>p
def VisF.waveC {d:Nat->Prop} {g j:World} {b:Nat} {S:Nat->Value} {e f:Int} (k:VisF d g j) (l:Bk g b 206 (wcells S e f)) (m:¬d b):∃c,Bk j b 206 (wcells S e c):=by
 rcases VisF.wave k l m with a |⟨c,a⟩;exact ⟨f,a⟩;rw [dS] at a;exact ⟨c,a⟩
def aJZ (d:Value) (c:World):Nat:=match d with
 | .pointer (some a)=>match c.cell? a with
   | some b=>(intOf b+1).toNat
   | none=>0
 | _=>0
def aCo {b:World} {a:Addr} {c:Int} (d:b.cell? a=some (.int .i64 c)):aJZ (.pointer (some a)) b=(c+1).toNat:=by
 show (match b.cell? a with | some e=>(intOf e+1).toNat | none=>0)=_;rw [d];rfl
def xB {B gv:Nat} {L:List Nat} {r j s:Nat} {w:World} (e:WaveAt w B gv L) (ab:L[r]?=some s) (a8:(L.take r).count s=j) (a6:∀x∈L,x < 257) (aZ:L.length<=1000) (aP:TabW w) (aO:7 < B):
 Calls prog 160 #[gv,(j:Int),(s:Int)] w fun G cf=>G=.returned (.int .i64 (r:Int))/\VB B w cf:=by
 have Z:=(zAc.1 ab).1;have av:=(zAc.1 ab).2;have a0:s < 257:=by rw [<-av];exact a6 _ (zBj Z)
 have ao:(L.take r).count s < L.count s:=by
  have cC:L.count s=(L.take (r+1)).count s+(L.drop (r+1)).count s:=by rw [<-zCc,zAu]
  have cD:(L.take (r+1)).count s=(L.take r).count s+1:=by rw [zAv,ab,zCc];simp
  omega
 have aN:=lE (L:=L) (k:=r) (s0:=s) (zCm Z) a6 a0;have aj:=aAj L r s;rw [a8] at aj ao;have aS:∀c,(aI L c (aW s c))[fB L r s c]?=some (fR s c):=fun c=>by have:=aBh (L:=L) (k:=r) c Z;rw [av] at this;exact this
 have b7:=e;obtain ⟨bR,S,cd,E,b3⟩:=e;obtain ⟨D,aa⟩:=eqx L.length;have ar:(L.take D).count s=L.count s:=by rw [<-aa,List.take_length]
 obtain ⟨aC,b2⟩:=eqx (L.count s);rw [b2] at ar ao;rw [aa] at E Z;have c2:=E.lt;have bZ:decide ((j:Int) < 0)=false:=by simp
 have W:=((Below.refl w.heap.size w).alloc nL (.cells #[(j:Int)] 3)).alloc (by simp) (.cells #[(s:Int)] 3);have I:=(Bk.new w 3 #[(j:Int)]).alloc (.cells #[(s:Int)] 3);have o:=Bk.new (w.alloc (.cells #[(j:Int)] 3)) 3 #[(s:Int)];rw [World.size_alloc] at o;obtain ⟨O,al⟩:=eqx ((w.alloc (.cells #[(j:Int)] 3)).alloc (.cells #[(s:Int)] 3));obtain ⟨d,a7⟩:=eqx w.heap.size;obtain ⟨y,aU⟩:=eqx (d+1);rw [al] at W I o;rw [a7] at I;rw [a7,aU] at o;have cQ:=I.lt;have cR:=o.lt;obtain ⟨bv,bd,bG,ag,aF,bC,bm,bf,bg⟩:=hqq9 aj aN (b7.vis (Vis.of_below W)) (E.below W c2) E b3 aS a6 aa;obtain ⟨bx,bB,bw,bi,a4,K,bl,bn,cg⟩:=hqq9 aZ ar (show ¬aC<=j by omega) aP I o al W a7;have ch:=lhd aU;clear aj aN b7 E b3 aS a6 aa ar b2 ao a8 ab av aP I o al W aZ Z;go_enter func160,ntmps160;go_wp2_with fail;rw [bl.out];refine wp_region_any kR ?_;refine aY (S:=(VB B)) (V:=(Vs [is gv,is (.bool false),is (.bool false),is (j:Int),is (.bool false),is (.bool false),is (.bool false),is (j:Int),is gv,is gv,is gv,is (.pointer (some ⟨gv,9,none⟩)),is (D:Int),is (s:Int),is (aC:Int),is (.bool false),is (.bool false)])) [8,9,10,11,12,13,14,15,16,17,18,19,20,21,22,23,24] _ rfl kR vR (fun _ _=>VisK.trans) (cK tA0) ?_ ?_
 · refine aV ?_;refine pH 0 (.pointer (some gv)) ?_;refine pV 0 8 ?_;refine pV 1 9 ?_;refine sG 10 false (fun m b a _ _ u _ _ _ _ g=>?_) ?_
   · have aJ:m (.tmp 4)=.pointer (some d):=u 4 kR;replace a:(VB B) O b:=bD a;have a3:b.cell? d=some (.int .i64 (j:Int)):=((a.1.bk a4.out dC dC).cell 0).trans rfl;go_simp;exact g _ _ vR rfl
   refine gV 10 false 3 11 ?_;refine pW 2 10 4 12 ?_;refine pV 5 13 ?_;refine sG 14 false (fun m b a _ _ u _ _ _ _ g=>?_) ?_
   · have aJ:m (.tmp 4)=.pointer (some d):=u 4 kR;replace a:(VB B) O b:=bD a;have a3:b.cell? d=some (.int .i64 (j:Int)):=((a.1.bk a4.out dC dC).cell 0).trans rfl;go_simp;exact g _ _ vR rfl
   refine gH 14 false 0 (.pointer (some gv)) ?_;refine gH 14 false 0 (.pointer (some gv)) ?_;refine gV 14 false 9 17 ?_;refine gV 14 false 10 18 ?_;refine sG 14 false (fun _ b a _ _ _ l _ _ _ g=>?_) ?_
   · have cp:_=_:=l 11 19 kR rfl;replace a:(VB B) O b:=bD a;obtain ⟨M,a1⟩:=a.1.waveC ag.out;have bM:b.cell? ⟨gv,9,none⟩=some (.int .i64 (D:Int)):=(a1.cell 9).trans (bV S D M).2.2.2.2.2.2.2.2.2.1;go_simp;exact g _ _ vR rfl
   refine sG 14 false (fun m b a _ _ u _ _ _ _ g=>?_) ?_
   · have aK:m (.tmp 5)=.pointer (some y):=u 5 kR;replace a:(VB B) O b:=bD a;have a3:b.cell? y=some (.int .i64 (s:Int)):=((a.1.bk K.out dC dC).cell 0).trans rfl;go_simp;exact g _ _ vR rfl
   refine sG 14 false (fun _ b a _ _ _ l _ _ _ g=>?_) ?_
   · have co:_=_:=l 8 16 kR rfl;have cq:_=_:=l 12 20 kR rfl;have cr:_=_:=l 13 21 kR rfl;replace a:(VB B) O b:=bD a;go_simp;refine (gM (B:=B) (gv:=gv) (L:=L) (s:=s) (w:=b) D (bG.out.vis a.1) a0 (Nat.le_of_eq bg.out.symm) bf.out bx.out).mono ?_;rintro G ba ⟨rfl,c5⟩;rw [bB.out];exact g _ _ c5 rfl
   refine sG 14 false (fun _ _ _ _ _ _ l _ _ _ g=>?_) ?_
   · have cn:_=_:=l 7 15 kR rfl;have cs:_=_:=l 14 22 kR rfl;have c0:=bw.out;have cJ:decide (aC<=j)=false:=zBy c0;go_simp;exact g _ _ vR rfl
   refine pW 6 14 15 23 ?_;exact aH
 · intro m z a l;replace a:(VB B) O z:=bD a;have bN:m (.tmp 24)=.bool false:=l 16 24 rfl;simp only [zqq];rw [bN];clear l;have ax:VB B w z:=(VisK.of_below (a7 ▸ bn.out)).trans a;have I:=a.1.bk a4.out dC dC;have o:=a.1.bk K.out dC dC;have c4:=a.1.size;obtain ⟨ah,bU⟩:∃x,x=z:=⟨_,rfl⟩;subst bU;have aM:=Bk.new ah 3 #[.int .i64 8];have aT:=I.alloc (.cells #[.int .i64 8] 3);have ap:=o.alloc (.cells #[.int .i64 8] 3);have b4:=ax.alloc (.cells #[.int .i64 8] 3);obtain ⟨be,bo,bq,bE⟩:=hqq4 aM aT ap b4;have cE:B<=d:=oM;have cH:w.heap.size<=ah.heap.size:=ax.1.size;clear aM aT ap b4 I o a ax a4 K bZ;go_wp2_with fail;go_loopw [7] (fun x wr=>∃(t C:Nat) (T:Int),C<=9/\T=(C:Int) - 1/\x=.pointer (some t)/\Bk wr t 3 #[.int .i64 T]/\Bk wr d 3 #[.int .i64 ((fB L r s C:Nat):Int)]/\Bk wr y 3 #[(s:Int)]/\VB B w wr/\y < t) (fun x wr=>aJZ x wr)
   case atStart=>exact ⟨ah.heap.size,9,8,by omega,by omega,rfl,be.out,by rw [bv.out];exact bo.out,bq.out,bE.out,by omega⟩
   case round=>
    obtain ⟨t,c8,T,cM,c6,rfl,A,X,o,J,ap⟩:=hrel;have aG:wr.cell? t=some (.int .i64 T):=(A.cell 0).trans rfl;rcases c8 with _ | c
    · have c7:decide (T>=0)=false:=(by simp;omega);have bL:wr.cell? d=some (.int .i64 ((fB L r s 0:Nat):Int)):=(X.cell 0).trans rfl;rw [bd.out] at bL;have U:=lhd J;clear X o A J;go_wp2_with fail;go_ret;exact ⟨rfl,U.out⟩
    · obtain rfl:T=(c:Int):=oM;have a9:c < 9:=oM;have c7:decide ((c:Int)>=0)=true:=(by simp);obtain ⟨af,P,aw⟩:=bC.out c a9;obtain ⟨C,aq⟩:=eqx (2 ^ c);obtain ⟨q,Y⟩:=eqx (aW s c);have b1:q < C:=(by rw [<-aq,<-Y];exact lP (s:=s) c a0 oM);rw [aq] at P aw;obtain ⟨H,ai,ak,cN,cG⟩:=World.ownsRow.form P oM;rw [ak] at P;obtain ⟨x,ad⟩:=eqx (fB L r s c);obtain ⟨bb,ae⟩:=eqx (fB L r s (c+1));have az:=lF (lv:=c) L r s a9;have ay:=bm.out c;rw [Y,ad,ae] at az;rw [Y,ad] at ay;rw [ae] at X;have cO:(q:Int) < (C:Int):=oM;have b0:=J.1.own P dC dC;have cI:=P.lt;have aX:∀f,(Value.slice (some H) C ai).ownBlock=some f->f≠d:=fun f an=>by have cF:H=f:=(by simpa [Value.ownBlock] using an);omega
      have bu:=lhd aX;clear aX;have ac:∃b9,Bk wr gv 206 (wcells S D b9):=J.1.waveC aF.out;obtain ⟨b9,ac⟩:=ac;have aQ:=bi.out.vb J aO oM;have cP:=J.1.size;obtain ⟨bK,bJ,bz,aD,bA,bI,ci,U,bh⟩:=hqq9 az ay b0 (aw q b1) Y ad ae J ak;obtain ⟨ag,bj,a5,K,bt,bc⟩:=hqq6 ac aQ A o X aG;obtain ⟨F,bW⟩:∃x,x=wr:=⟨_,rfl⟩;subst bW;clear P aw ak aq Y ad ae az ay J b0 ac aQ A o X c6;go_wp2_with fail;refine wp_region_any kR ?_;refine bQ (pre:=(fun Q=>Bk Q d 3 #[(bb:Int)])) (pJ:=(fun _ Q=>Bk Q d 3 #[(x:Int)])) B 14 [29,30,31,32,33,34,35,36,37,38,39,40,41,42] (fun f=>f=d) 13 [13] [is gv,is gv,is (c:Int),is gv,is gv,is (.pointer (some ⟨gv,c,none⟩)),is (.slice (some H) C ai),is (s:Int),is (c:Int),is (q:Int),is (.pointer (some ⟨H,q*3,none⟩)),is (.agg #[.pointer (some ⟨af q,0,none⟩),(c:Int),(q:Int)]),is (.func (.func 226) #[] #[d,y,t]),dJ] _ rfl dC kR kR kR (bt.out) (fun w1 Q e _ a2=>a2.1.bk e dC dC) (fun _ _ _ e a2=>a2.1.bk e dC dC) tA0 ?_ ?_
      · refine bH ?_;refine pH3 0 (.pointer (some gv)) ?_;refine pH3 0 (.pointer (some gv)) ?_;refine sC3 (fun m b a _ _ _ u _ _ _ _ g=>?_) ?_
        · replace a:VFB B (fun f=>f=d) F b:=fD a;have aL:m (.tmp 7)=.pointer (some t):=u 7 kR;have a3:b.cell? t=some (.int .i64 (c:Int)):=((a.1.bk a5.out dC dC (fun e=>absurd (show t=d from e) oM)).cell 0).trans rfl;go_simp;exact g _ _ (aE vR) rfl
        refine pV3 1 30 ?_;refine pV3 3 32 ?_;refine sC3 (fun _ _ _ _ _ _ _ l _ _ _ g=>?_) ?_
        · have cv:_=_:=l 4 33 kR rfl;have cu:_=_:=l 2 31 kR rfl;have cL:(c:Int) < 9:=oM;go_simp;exact g _ _ (aE vR) rfl
        refine sC3 (fun _ b a _ _ _ _ l _ _ _ g=>?_) ?_
        · replace a:VFB B (fun f=>f=d) F b:=fD a;have cw:_=_:=l 5 34 kR rfl;obtain ⟨M,a1⟩:=a.1.waveC ag.out (fun e=>absurd (show gv=d from e) oM);have bM:b.cell? ⟨gv,c,none⟩=some (.slice (some H) C ai):=(a1.cell c).trans ((sS (i:=c) S D M a9).trans (congrArg some bh.out));go_simp;exact g _ _ (aE vR) rfl
        refine sC3 (fun m b a _ _ _ u _ _ _ _ g=>?_) ?_
        · replace a:VFB B (fun f=>f=d) F b:=fD a;have aK:m (.tmp 5)=.pointer (some y):=u 5 kR;have a3:b.cell? y=some (.int .i64 (s:Int)):=((a.1.bk K.out dC dC (fun e=>absurd (show y=d from e) oM)).cell 0).trans rfl;go_simp;exact g _ _ (aE vR) rfl
        refine sC3 (fun m b a _ _ _ u _ _ _ _ g=>?_) ?_
        · replace a:VFB B (fun f=>f=d) F b:=fD a;have aL:m (.tmp 7)=.pointer (some t):=u 7 kR;have a3:b.cell? t=some (.int .i64 (c:Int)):=((a.1.bk a5.out dC dC (fun e=>absurd (show t=d from e) oM)).cell 0).trans rfl;go_simp;exact g _ _ (aE vR) rfl
        refine sC3 (fun _ b _ _ _ _ _ l _ _ _ g=>?_) ?_
        · have cx:_=_:=l 7 36 kR rfl;have cy:_=_:=l 8 37 kR rfl;go_simp;refine (kE (s:=s) c b a0 oM).mono ?_;rintro G ba ⟨rfl,am⟩;rw [bA.out];exact g _ _ (aE (VisK.of_below am)) rfl
        refine pW3 6 35 9 38 ?_;refine sC3 (fun _ b a _ _ _ _ l _ _ _ g=>?_) ?_
        · replace a:VFB B (fun f=>f=d) F b:=fD a;have cz:_=_:=l 10 39 kR rfl;have au:=aA bz.out fun f cm an E=>a.1.bk E dC dC (fun e=>absurd (show f=d from e) (bu.out f an));obtain ⟨ca,cb,cc⟩:=eU af c C q b1;have cj:b.cell? ⟨H,q*3,none⟩=_:=(World.ownsRow.cellAt au (q*3) oM).trans ca;have ck:b.cell? ⟨H,q*3+1,none⟩=_:=(World.ownsRow.cellAt au (q*3+1) oM).trans cb;have cl:b.cell? ⟨H,q*3+2,none⟩=_:=(World.ownsRow.cellAt au (q*3+2) oM).trans cc;go_simp;exact g _ _ (aE vR) rfl
        refine sC3 (fun m _ _ _ _ _ u _ _ _ _ g=>?_) ?_
        · have aJ:m (.tmp 4)=.pointer (some d):=u 4 kR;have aK:m (.tmp 5)=.pointer (some y):=u 5 kR;have aL:m (.tmp 7)=.pointer (some t):=u 7 kR;go_simp;exact g _ _ (aE vR) rfl
        refine sC3 (fun _ b a bT _ _ _ l _ _ _ g=>?_) ?_
        · replace a:VFB B (fun f=>f=d) F b:=fD a;have c3:=bT rfl;have ct:_=_:=l 0 29 kR rfl;have cA:_=_:=l 11 40 kR rfl;have cB:_=_:=l 12 41 kR rfl;go_simp;have b6:Vis w b:=(VisF.trans (VisF.of_vis U.out.1) a.1).to_vis (fun f E G=>by have:f=d:=G;omega);obtain ⟨M,a1⟩:∃M,Bk b gv 206 (wcells S D M):=b6.waveC aF.out;have o:=a.1.bk K.out dC dC (fun e=>absurd (show y=d from e) oM);have A:=a.1.bk a5.out dC dC (fun e=>absurd (show t=d from e) oM);have bS:TabW b:=fun j a8=>(a.2.cell (p:=⟨7,j,none⟩) (by show 7 < F.heap.size;omega) (by show ¬(7=d∨B<=7);omega)).trans (bj.out j a8);refine (aGM (B:=B) (gv:=gv) (gt:=(af q)) (gn:=d) (gs:=y) (gw:=t) (S:=S) (n:=D) (v:=M) (lv:=c) (bs:=(aI L c q)) (r:=x) (j:=bb) (s:=s) (w0:=w) (w:=b) q a1 aD.out.2 b6 oM c3 o A a9 a0 bJ.out bK.out bS aO bR aD.out.1 oM).mono ?_;rintro G ba ⟨rfl,bY,c1,am⟩;exact g _ _ (iX ⟨bY,c1.mono fun f _ e=>.inr e⟩) am
        exact aH
      · intro m z bP a l aR;replace a:VFB B (fun f=>f=d) F z:=fD a;obtain ⟨ce,b8⟩:=aR 13 dC;have aB:(fun _ Q=>Bk Q d 3 #[(x:Int)]) ce z:=b8;clear b8 aR;simp only [zqq];clear l;change wpAny prog Region.Mode.any _ _ (0+bP) (bX 14 14) _ z;refine bO kR ?_;have o:=a.1.bk K.out dC dC (fun e=>absurd (show y=d from e) oM);have A:=a.1.bk a5.out dC dC (fun e=>absurd (show t=d from e) oM);have b5:VB B w z:=⟨(VisF.trans (VisF.of_vis U.out.1) a.1).to_vis (fun f E G=>by have:f=d:=G;omega),U.out.2.trans (a.2.mono fun f _ e=>by rcases e with e | e;(have:f=d:=e;omega);exact e)⟩;have c4:=a.1.size;have aG:z.cell? t=some (.int .i64 (c:Int)):=(A.cell 0).trans rfl;have cS:=A.lt;obtain ⟨br,bp,bF⟩:=hqq3 o aB b5;clear o A b5 a aB;go_wp2_with fail;refine ⟨⟨z.heap.size,c,(c:Int) - 1,by omega,rfl,rfl,Bk.new _ _ _,by rw [bI.out];exact bp.out.alloc _,br.out.alloc _,bF.out.alloc _,by omega⟩,?_⟩;have c9:=((Bk.new z 3 #[.int .i64 ((c:Int) - 1)]).cell 0);rw [aCo (c9.trans rfl),aCo bc.out];omega
end
end Go.Proofs.YtcoooelofcejbaaGreatDoor
