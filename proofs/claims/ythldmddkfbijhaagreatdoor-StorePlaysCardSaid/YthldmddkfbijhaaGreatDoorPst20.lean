/- Lemmas of the walk. Conditions: each its own. -/
import Derived.Test.YthldmddkfbijhaaGreatDoorPst13
import Derived.Test.YthldmddkfbijhaaGreatDoorPst16
import Derived.Test.YthldmddkfbijhaaGreatDoorPst17
import Derived.Test.YthldmddkfbijhaaGreatDoorProg
import Derived.Test.YthldmddkfbijhaaGreatDoorShl
set_option linter.all false
set_option maxRecDepth 100000
set_option maxHeartbeats 4000000
open Go.Proofs.Tryz
namespace Go.Proofs.YthldmddkfbijhaaGreatDoor
section
open Go.RowKit Go.Shelf
theorem ShelfRow.sameT {o p:World} {e:Nat} {n:Value} {f:List Nat} {k l:Nat} (r:ShelfRow o e n f k l) (j:∀a c b,c≠3->Bk o a c b->Bk p a c b):ShelfRow p e n f k l:=by
 obtain ⟨q,s,g⟩:=r;exact ⟨q,aA s fun a b _ d=>j _ _ _ dC d,fun m i=>⟨(g m i).1,(g m i).2.same fun a c b t d=>j _ _ _ (by rintro rfl;revert t;decide) d⟩⟩
theorem LvW.sameT {i j:World} {c g:Nat} {d:List Nat} (m:LvW i c g d) (a:∀e b f,b≠3->Bk i e b f->Bk j e b f):LvW j c g d:=by
 obtain ⟨gk,v,w,x,n,l,k,o,⟨s,S,y,p,q⟩,r⟩:=m;exact ⟨gk,v,w,x,a _ _ _ dC n,l,k,a _ _ _ dC o,⟨s,S,y,a _ _ _ dC p,fun u t=>(q u t).sameT a⟩,a _ _ _ dC r⟩
theorem LvW.visI {k d:World} {n p b:Nat} {e z:Value} {o:List Nat} (s:LvW k n p o) (g:VisF (fun a=>a=b) k d) (t:Bk k b 3 #[e]) (u:Bk d b 3 #[z]):LvW d n p o:=by
 have r:Bk (d.setCell ⟨b,0,none⟩ e) b 3 #[e]:=u.set 0 e;have j:∀a,a≠b->(d.setCell ⟨b,0,none⟩ e).heap[a]?=d.heap[a]?:=fun a w=>heap_setCell_other d ⟨b,0,none⟩ a e w;have y:Vis k (d.setCell ⟨b,0,none⟩ e):=by refine ⟨g.os,g.tape,g.output,by simpa [World.setCell] using g.size,fun a v _=>?_⟩;by_cases c:a=b;subst c;exact .inl (r.trans t.symm);rcases g.block a v c with f |⟨i,m,f,l⟩|⟨i,m,f,l⟩;exact .inl ((j a c).trans f);exact .inr (.inl ⟨i,m,f,(j a c).trans l⟩);exact .inr (.inr ⟨i,m,f,(j a c).trans l⟩)
 refine (s.vis y).sameT fun a A i x q=>?_;have c:a≠b:=fun c=>by subst c;exact x (aM q r).1
 exact (j a c).symm.trans q
theorem aGv (a:List Nat) (b:Nat) {c d:Nat} (e:c<=d):cH a b c<=cH a b d:=by
 unfold cH;have:=(List.take_sublist_take_left (l:=a) e).count_le b;omega
end
section
def Pq (a:List Nat) (b:Bool):List Nat->Nat->Bool
 | [],_=>b
 | c::q,p=>decide (aN a p < (c:Int))||(decide (aN a p=(c:Int))&&Pq a b q (p+1))
def tB (a:List Nat):List Nat->Nat->Bool
 | [],_=>true
 | b::q,p=>decide (aN a p=(b:Int))&&tB a q (p+1)
theorem aBT (a:List Nat) (d:Bool) (c:Nat) (e:List Nat) (b:Nat):Pq a d (c::e) b=(decide (aN a b < (c:Int))||(decide (aN a b=(c:Int))&&Pq a d e (b+1))):=rfl
theorem aAv (a:List Nat) (d:Nat) (c:List Nat) (b:Nat):tB a (d::c) b=(decide (aN a b=(d:Int))&&tB a c (b+1)):=rfl
theorem aBS {d:List Nat} {f:Bool} (e:List Nat):∀ {b c:Nat},sufLt d c b->Pq d f e b=true->Pq d f e c=true:=by
 induction e with
 | nil=>intro b c _ a;exact a
 | cons m e l=>
   intro b c k a;unfold Pq at a⊢;simp only [Bool.or_eq_true,zBd,zCa] at a⊢;rcases (iD d c b).1 k with g |⟨g,i⟩;rcases a with a |⟨a,_⟩;exact .inl oM;exact .inl oM;rcases a with a |⟨a,j⟩;exact .inl oM;exact .inr ⟨by omega,l i j⟩
def Nq (a:List Nat) (b:Bool) (c:List Nat):Nat:=(List.range a.length).countP (Pq a b c)
theorem aKh (a:List Nat) (b:Bool) (c:List Nat):Nq a b c<=a.length:=by
 unfold Nq;have:=zBh (p:=Pq a b c) (l:=List.range a.length);simpa using this
theorem aD2 {a f:List Nat} (d:IsSuf a f) (c:Bool) (b:List Nat) (g:Nat):((aE a f).take (Nq a c b)).count g=(List.range a.length).countP (fun e=>decide (bM a e=g)&&Pq a c b e):=by
 have i:Nq a c b=f.countP (Pq a c b):=(d.count _).symm;rw [i,aE,<-List.map_take,sZ d.sorted (fun l m j k=>aBS b j k),<-d.count,List.count_eq_countP,List.countP_map,List.countP_filter];refine List.countP_congr fun e _=>?_;simp [Function.comp,and_comm]
theorem aFA {a j:List Nat} {e:Nat} (k:IsSuf a j) (l:EndOk a e) (f:Bool) (g:List Nat) (c:Nat) (u:0 < c):cH (aE a j) c (Nq a f g)=Nq a f (c::g):=by
 have d:=l.len;unfold cH;rw [aD2 k];have m:(aE a j).countP (fun q=>decide (q < c))=(List.range (e+1)).countP (fun b=>decide (a.getD b 0 < c)):=by
  rw [aE,List.countP_map,k.count,d];refine fX _ _ ?_ fun b i=>?_
  · show decide (bM a 0 < c)=_;rw [bT oM,d,zBb]
  · show decide (bM a (b+1) < c)=_;rw [aY oM]
 have n:(List.range a.length).countP (fun b=>decide (bM a b=c)&&Pq a f g b)=(List.range (e+1)).countP (fun b=>decide (a.getD b 0=c)&&Pq a f g (b+1)):=by
  rw [d];refine fX _ _ ?_ fun b i=>?_;show (decide (bM a 0=c)&&_)=(decide (a.getD e 0=c)&&_);rw [bT oM,d,zBb,l.last];have:decide (0=c)=false:=(by simp;omega);rw [this];rfl
  · show (decide (bM a (b+1)=c)&&_)=_;rw [aY oM]
 rw [m,n,<-tK]
 · unfold Nq;rw [d];refine List.countP_congr fun b i=>?_;have t:b < e+1:=(by simpa using i);rw [aBT,eU oM];have o:decide (((a.getD b 0:Nat):Int) < (c:Int))=decide (a.getD b 0 < c):=(by rw [decide_eq_decide];omega);have p:decide (((a.getD b 0:Nat):Int)=(c:Int))=decide (a.getD b 0=c):=(by rw [decide_eq_decide];omega);rw [o,p]
 intro b _;simp only [zBd,zCa];rintro ⟨r,s,_⟩;omega
theorem aKY (a:List Nat):Nq a false []=0/\Nq a true []=a.length:=by
 constructor;unfold Nq;exact List.countP_eq_zero.2 fun _ _ b=>by simp [Pq] at b
 · unfold Nq;have:=(List.countP_eq_length (p:=Pq a true []) (l:=List.range a.length)).2 (fun _ _=>rfl);rw [this];simp
theorem aI6 (b:List Nat) (c:List Nat):∀a,Pq b true c a=(Pq b false c a||tB b c a)/\¬(Pq b false c a=true/\tB b c a=true):=by
 induction c with
 | nil=>intro a;exact ⟨rfl,fun j=>by simp [Pq] at j⟩
 | cons d c m=>
   intro a;obtain ⟨k,l⟩:=m (a+1);rw [aBT,aBT,aAv,k];by_cases e:aN b a < (d:Int)
   · have:¬aN b a=(d:Int):=oM;simp [e,this]
   · by_cases f:aN b a=(d:Int);have g:decide (aN b a < (d:Int))=false:=(by simpa using e);have i:decide (aN b a=(d:Int))=true:=(by simpa using f);rw [g,i,Bool.false_or,Bool.true_and,Bool.false_or,Bool.true_and,Bool.true_and];exact ⟨rfl,l⟩
     · simp [e,f]
def occ (a:List Nat) (b:List Nat):Nat:=(List.range a.length).countP (tB a b)
theorem aFg (a:List Nat) (b:List Nat):Nq a true b=Nq a false b+occ a b:=by
 unfold Nq occ;rw [<-tK _ _ _ fun c _=>(aI6 a b c).2];exact List.countP_congr fun c _=>by rw [(aI6 a b c).1]
section
variable {S R : List Nat} {N : Nat}
theorem aHp {c:List Nat} {a b s:Nat} (k:a < c.length) (l:a≠b):((aG (c.set b s) a).take (aW b a)).count s+(if a < b/\c.getD a 0=s then 1 else 0)=(c.take b).count s:=by
 have g:(c.set b s).take b=c.take b:=by
  apply List.ext_getElem?;intro n;rw [zBs,zBs];split
  · rw [zBm,zBw oM]
  rfl
 unfold aW;by_cases d:a < b
 · rw [zBx d];have i:(aG (c.set b s) a).take (b - 1)=aG (c.take b) a:=(by unfold aG;have e:((c.set b s).take a).length=a:=(by rw [zAj,zAt];omega);rw [List.take_append,e,List.take_take,Nat.min_eq_right oM,<-g,List.take_take,zCt oM,List.drop_take];congr 2;omega);rw [i];have m:a < (c.take b).length:=(by rw [zAj];omega);have j:(c.take b)[a]?=some (c.getD a 0):=(by rw [zBs,zBx d,zAb,zAa k];rfl);have:=(eJ j).count_eq s;rw [<-this,List.count_cons];by_cases f:c.getD a 0=s
   · simp [d,f]
   · simp [d,f]
 · rw [zBw d,zBw oM,zBq];unfold aG;have e:((c.set b s).take a).length=a:=(by rw [zAj,zAt];omega);rw [List.take_append,e,show b - a=0 by omega,List.take_zero,List.append_nil,List.take_take,zCt oM,g]
end
section
variable {S R : List Nat} {N : Nat}
theorem aJu (k:EndOk S N) {a c:Nat} (o:a < N) (m:0 < c):EndOk (S.set a c) N:=by
 obtain ⟨g,i,j⟩:=k;have f:∀b,(S.set a c).getD b 0=if a=b/\b < S.length then c else S.getD b 0:=fun b=>by
  rw [zAb,zBm,zAb];by_cases d:a=b
  · subst d;by_cases e:a < S.length
    · simp [e]
    · simp [e]
  · simp [d]
 refine ⟨by rw [zAt,g],?_,fun n l=>?_⟩
 · rw [f,zBw oM,i]
 rw [f];split;exact m;exact j n l
theorem aHH (S:List Nat) {a s:Nat} (e:a < S.length) (b:Nat):(S.set a s).getD b 0=if b=a then s else S.getD b 0:=by
 rw [zAb,zBm,zAb];by_cases c:b=a
 · subst c;simp [e]
 · rw [zBw (fun d=>c d.symm),zBw c]
def KS (S R:List Nat) (c b a:Nat):Bool:=decide (S.getD a 0 < b∨(S.getD a 0=b/\ro R (a+1) < ro R (c+1)))
theorem aCL (L:IsSuf S R) (m:EndOk S (N+1)) {c i:Nat} (Y:c<=N) (T:0 < i) {row:Nat} (Z:row<=N+1)
 (u:∀b,b<=N+1->b≠c->b+1≠c->(aW (ro R b) (ro R c) < row↔KS S R c i b=true))
 (E:∀b,b+1=c->(aW (ro R b) (ro R c) < row->S.getD b 0<=i)/\(row<=aW (ro R b) (ro R c)->i<=S.getD b 0)):
 Near (S.set c i) (aP (aG R (ro R c)) row c) (N+1) c:=by
 have l:=L.near m;have X:=m.len;have O:=l.nodup;have k:∀a,a<=N+1->a∈R:=fun a d=>l.mem.2 d;have x:=l.len;have C:∀a b,a<=N+1->b<=N+1->a≠b->ro R a≠ro R b:=fun a b d e z p=>z (eS (k a d) (k b e) p);obtain ⟨J,D,r⟩:=uZ O (t:=row) (cC (k c oM)) oM;obtain ⟨j,M⟩:∃j,aP (aG R (ro R c)) row c=j:=⟨_,rfl⟩;rw [M] at J D r⊢;have q:∀a b,a<=N+1->b<=N+1->a≠c->b≠c->(ro j a < ro j b↔ro R a < ro R b):=fun a b d e n I=>by rw [r a (k a d) n,r b (k b e) I];have v:=C a c d oM n;have W:=C b c e oM I;unfold inR aW;split <;> split <;> split <;> split <;> omega
 have H:∀a,a<=N+1->a≠c->(ro j a < ro j c↔aW (ro R a) (ro R c) < row):=fun a d n=>by rw [D,r a (k a d) n];unfold inR;split <;> omega
 have G:∀a,a<=N+1->a≠c->(ro j c < ro j a↔¬aW (ro R a) (ro R c) < row):=fun a d n=>by rw [D,r a (k a d) n];unfold inR;split <;> omega
 have w:=aHH S (s:=i) (show c < S.length by omega);refine ⟨aJu m oM T,J.trans l.perm,fun a b d e B=>?_,fun a b d e z a0 a1=>?_⟩;rw [w,w];by_cases g:a=c;subst g;rw [zBx rfl];by_cases f:b=a;rw [zBx f];exact zAs _;rw [zBw f];have v:=(G b e f).1 B;by_cases o:b+1=a;exact (E b o).2 oM;have:=u b e f o;unfold KS at this;rw [zCa] at this;omega;rw [zBw g];by_cases f:b=c;subst f;rw [zBx rfl];have v:=(H a d g).1 B;by_cases o:a+1=b;exact (E a o).1 v;have:=(u a d g o).1 v;unfold KS at this;rw [zCa] at this;omega;rw [zBw f];exact l.first a b d e ((q a b d e g f).1 B)
 · have y:∀A,A<=N+1->S.getD A 0≠0->A < N+1:=fun A U V=>Nat.lt_of_le_of_ne U fun p=>by subst p;exact V m.last
   unfold tI;rw [w,w];by_cases g:a=c;subst g;have f:b≠a:=fun p=>z p.symm;rw [zBx rfl,zBw f,G b e f,u b e f oM];unfold KS;rw [zCa];by_cases F:S.getD b 0=i;have Q:=y b e oM;rw [q (a+1) (b+1) oM oM oM oM];have:=C (b+1) (a+1) oM oM oM;omega;omega
   · rw [zBw g];by_cases f:b=c
     · subst f;rw [zBx rfl,H a d g,u a d g oM];unfold KS;rw [zCa];by_cases F:S.getD a 0=i
       · have P:=y a d oM;rw [q (a+1) (b+1) oM oM oM oM]
       omega
     · rw [zBw f,q a b d e g f,l.cons a b d e z oM oM];unfold tI;by_cases F:S.getD a 0=S.getD b 0
       · by_cases K:S.getD a 0=0;have a2:a=N+1:=Nat.le_antisymm d (zCr.1 fun x=>by have:=m.pos a x;omega);have a3:b=N+1:=Nat.le_antisymm e (zCr.1 fun x=>by have:=m.pos b x;omega);omega
         · have P:=y a d K;have Q:=y b e oM;rw [q (a+1) (b+1) oM oM oM oM]
       omega
theorem aKD (I:IsSuf S R) (U:EndOk S (N+1)) {a s:Nat} (L:a<=N):(∀b,b<=N+1->b≠a->(aW (ro R b) (ro R a) < (aG R (ro R a)).countP (KS S R a s)↔KS S R a s b=true))/\(aG R (ro R a)).countP (KS S R a s)<=N+1:=by
 have f:=I.near U;have a4:=f.nodup;have n:∀d,d<=N+1->d∈R:=fun d o=>f.mem.2 o;obtain ⟨G,t,u,H⟩:=aBq f.perm L;have z:∀d b,d<=N+1->b<=N+1->d≠b->ro R d≠ro R b:=fun d b o q W k=>W (eS (n d o) (n b q) k);have B:∀ {e c:Nat},(aG R (ro R a))[e]?=some c->c<=N+1/\c≠a/\e=aW (ro R c) (ro R a):=fun {e c} g=>by have j:=(H c).1 (zAd g);refine ⟨f.mem.1 j.1,j.2,?_⟩;have K:=u c j.1 j.2;obtain ⟨v,w⟩:=zAc.1 g;obtain ⟨x,y⟩:=zAc.1 K;rcases Nat.lt_trichotomy e (aW (ro R c) (ro R a)) with b | b | b;exact absurd (by rw [w,y]) (zAr.1 t _ _ v x b);exact b;exact absurd (by rw [w,y]) (zAr.1 t _ _ x v b)
 have X:(aG R (ro R a)).Pairwise fun d b=>KS S R a s b=true->KS S R a s d=true:=by
  rw [zAr];intro e r M O a3 m;obtain ⟨c,g⟩:=eqx ((aG R (ro R a))[e]);obtain ⟨i,A⟩:=eqx ((aG R (ro R a))[r]);have Q:(aG R (ro R a))[e]?=some c:=by rw [zAa M,g]
  have T:(aG R (ro R a))[r]?=some i:=by rw [zAa O,A]
  rw [g];rw [A] at m;obtain ⟨C,a0,D⟩:=B Q;obtain ⟨E,a1,F⟩:=B T;have a5:=z c a C oM a0;have a6:=z i a E oM a1;have V:ro R c < ro R i:=by unfold aW at D F;split at D <;> split at F <;> omega
  have Z:c≠i:=fun k=>by subst k;omega
  have P:=(f.cons c i C E Z oM oM).1 V;unfold tI at P;unfold KS at m⊢;rw [zCa] at m⊢;omega
 refine ⟨fun b q Y=>(aBc X _ _ (u b (n b q) Y)).symm,?_⟩;have a2:=zBh (p:=KS S R a s) (l:=aG R (ro R a));have J:=G.length_eq;rw [zCg,f.len] at J;omega
theorem aKE (o:IsSuf S R) (g:EndOk S (N+1)) {a b:Nat} (q:a<=N) (v:0 < b):(aG R (ro R a)).countP (KS S R a b)+(if S.getD a 0 < b then 1 else 0)=(aE S R).countP (fun w=>decide (w < b))+(((aG ((aE S R).set (ro R (a+1)) b) (ro R a)).take (aW (ro R (a+1)) (ro R a))).count b+if ro R a < ro R (a+1)/\bM S a=b then 1 else 0):=by
 have d:=o.near g;have A:=d.nodup;have f:∀c,c<=N+1->c∈R:=fun c u=>d.mem.2 u;obtain ⟨l,x,y,z⟩:=aBq d.perm q;have i:=cC (f a oM);have r:ro R a < (aE S R).length:=by rw [bP];exact (zAc.1 i).1
 have t:ro R a≠ro R (a+1):=fun m=>by have:=eS (f a oM) (f (a+1) oM) m;omega
 have p:(aE S R).getD (ro R a) 0=bM S a:=by unfold aE;rw [zAb,zAf,i];rfl
 have k:=aHp (s:=b) r t;rw [p] at k;rw [k];have j:=rM g d.perm v (ro R (a+1));unfold cH at j;rw [j];unfold aBk;rw [<-d.perm.countP_eq,<-l.countP_eq,zBn];have n:(aG R (ro R a)).countP (fun c=>decide (S.getD c 0 < b∨(S.getD c 0=b/\ro R (c+1) < ro R (a+1))))=(aG R (ro R a)).countP (KS S R a b):=rfl;rw [n];congr 1;by_cases e:S.getD a 0 < b
 · rw [zBx e,zBx (zBz (.inl e))]
 rw [zBw e,zBw];rw [zCa];omega
theorem aJt (m:IsSuf S R) (k:EndOk S (N+1)) {c s:Nat} (q:c<=N) (w:0 < s) {n0 row:Nat} {a:Int} (D:a=if c=0 then -1 else ((aW (ro R (c - 1)) (ro R c):Nat):Int))
 (M:n0+(if S.getD c 0 < s then 1 else 0)=(aE S R).countP (fun J=>decide (J < s))+((aG ((aE S R).set (ro R (c+1)) s) (ro R c)).take (aW (ro R (c+1)) (ro R c))).count s)
 (n:row=if bM S c=s/\a<=(n0:Int) then n0+1 else n0):
 row<=N+1/\Near (S.set c s) (aP (aG R (ro R c)) row c) (N+1) c:=by
 have A:=m.near k;have r:∀d,d<=N+1->d∈R:=fun d f=>A.mem.2 f;have C:=k.len;have t:∀d b,d<=N+1->b<=N+1->d≠b->ro R d≠ro R b:=fun d b f g v e=>v (eS (r d f) (r b g) e);obtain ⟨o,x⟩:=aKD (s:=s) m k q;have E:=aKE m k q w;obtain ⟨l,G⟩:=eqx ((aG R (ro R c)).countP (KS S R c s));rw [G] at o x E;have hrel:n0+(if ro R c < ro R (c+1)/\bM S c=s then 1 else 0)=l:=oM;have F:(row=l)∨(∃b,b+1=c/\S.getD b 0=s/\aW (ro R b) (ro R c)=l/\row=l+1):=by
  by_cases j:bM S c=s
  · have u:c≠0:=fun e=>by subst e;rw [bT oM,C,zBb,k.last] at j;omega
    obtain ⟨b,rfl⟩:∃b,c=b+1:=⟨c - 1,by omega⟩;rw [aY oM] at j;rw [zBw u,zBb] at D;have g:=o b oM oM;unfold KS at g;rw [zCa,j] at g;rw [aY oM,j] at hrel n;by_cases p:ro R (b+1) < ro R (b+1+1);left;rw [zBx ⟨p,rfl⟩] at hrel;have:aW (ro R b) (ro R (b+1)) < l:=g.2 (.inr ⟨rfl,p⟩);rw [zBx ⟨rfl,by omega⟩] at n;omega
    · rw [zBw (fun e=>p e.1)] at hrel;have K:¬aW (ro R b) (ro R (b+1)) < l:=fun e=>by rcases g.1 e with z | z;omega;exact p z.2
      by_cases y:aW (ro R b) (ro R (b+1))=l;right;rw [zBx ⟨rfl,by omega⟩] at n;exact ⟨b,rfl,j,y,by omega⟩;left;rw [zBw (fun e=>y oM)] at n;omega
  left;rw [zBw (fun e=>j e.2)] at hrel;rw [zBw (fun e=>j e.1)] at n;omega
 have H:∀d b,d<=N+1->b<=N+1->d≠c->b≠c->d≠b->aW (ro R d) (ro R c)≠aW (ro R b) (ro R c):=fun d b f g i I v=>by have U:=t d c f oM i;have V:=t b c g oM I;have W:=t d b f g v;unfold aW;split <;> split <;> omega
 rcases F with rfl |⟨b,P,Q,T,rfl⟩;refine ⟨x,aCL m k q w x (fun d f i _=>o d f i) (fun d i=>?_)⟩;have:=o d oM oM;unfold KS at this;rw [zCa] at this;omega;have L:aW (ro R b) (ro R c) < N+1:=(by have u:=(zAc.1 (cC (r b oM))).1;have B:=(zAc.1 (cC (r c oM))).1;rw [A.len] at u B;have:=t b c oM oM oM;unfold aW;split <;> omega);refine ⟨by omega,aCL m k q w oM (fun d f i O=>?_) (fun d i=>?_)⟩;rw [<-o d f i];have:=H d b f oM i oM oM;omega;obtain rfl:d=b:=oM;omega
theorem aGz (f:R.Perm (List.range (N+1+1))) (n:EndOk S (N+1)) {b s row:Nat} (r:b<=N):aE (S.set b s) (aP (aG R (ro R b)) row b)=aP (aG ((aE S R).set (ro R (b+1)) s) (ro R b)) row (bM S b):=by
 have p:R.Nodup:=f.nodup_iff.2 List.nodup_range;have q:=n.len;have o:∀a,a∈R->a<=N+1:=fun a g=>by have:=zCj.1 (f.mem_iff.1 g);omega
 have i:b+1∈R:=f.mem_iff.2 (zCj.2 oM);have j:=aHH S (s:=s) (show b < S.length by omega);have k:∀a,a<=N+1->bM (S.set b s) a=if a=b+1 then s else bM S a:=fun a t=>by
  rcases a with _ | a
  · rw [zBw oM,bT (by rw [zAt];omega),bT oM,zAt,j,zBw oM]
  · rw [aY (by rw [zAt];omega),aY oM,j];by_cases d:a=b
    · rw [zBx d,zBx oM]
    · rw [zBw d,zBw oM]
 unfold aE;rw [nP,rY,k b oM,zBw oM];congr 2;apply List.ext_getElem?;intro m;rw [zAf,zBm,zAf];cases c:R[m]? with
 | none=>
   have:¬ro R (b+1)=m:=fun e=>by rw [<-e,cC i] at c;cases c
   rw [zBw this];rfl
 | some a=>
   have g:=zAd c;have l:=fP p c;show some (bM (S.set b s) a)=_;rw [k a (o a g)];by_cases d:a=b+1
   · subst d;rw [zBx rfl,zBx l,zBx (by rw [l];simpa using (zAc.1 c).1)]
   rw [zBw d,zBw (fun e=>d ?_)];rfl;rw [<-e,cC i] at c;injection c with c;exact c.symm
end
end
section
open Go.RowKit
theorem aH4 {c e:List Nat} (g:IsSuf c e) (d:Bool) (a:List Nat) (b:Nat) (q:b < e.length):Pq c d a e[b]=decide (b < Nq c d a):=by
 have o:e.countP (Pq c d a)=Nq c d a:=g.count _;have n:=sZ (P:=Pq c d a) g.sorted (fun j w t u=>aBS a t u);rw [o] at n;rw [Bool.eq_iff_iff,zCa];constructor;intro m;by_cases k:b < Nq c d a;exact k;exfalso;have p:∀j∈e.take (b+1),Pq c d a j=true:=(by intro j s;obtain ⟨i,r,rfl⟩:=zBo.1 s;rw [zAj] at r;rw [List.getElem_take];rcases zBe i b with f | f;exact aBS a (zAr.1 g.sorted i b oM q f) m;obtain rfl:i=b:=oM;exact m);have f:=List.countP_eq_length.2 p;rw [zAj] at f;have v:(e.take (b+1)).countP (Pq c d a)<=e.countP (Pq c d a):=(List.take_sublist _ _).countP_le;omega;intro k;have l:e[b]∈e.take (Nq c d a):=(by rw [List.mem_take_iff_getElem];exact ⟨b,by omega,rfl⟩);rw [n,zCv] at l;exact l.2
theorem aJz {c f:List Nat} (g:IsSuf c f) (b:List Nat) (a:Nat) (j:a < f.length):tB c b f[a]=true↔Nq c false b<=a/\a < Nq c true b:=by
 obtain ⟨d,i⟩:=aI6 c b f[a];rw [aH4 g false b a j,aH4 g true b a j] at d;rw [aH4 g false b a j] at i;constructor;intro l;rw [l] at d i;constructor;rcases zBe a (Nq c false b) with e | e;exact absurd ⟨zBz e,rfl⟩ i;exact e;simpa using d;rintro ⟨e,k⟩;rw [zBz k,zBy oM] at d;simpa using d.symm
theorem aEx {α:Type} (d:α->Bool) (b:List α) (a c:Nat) (q:a<=c) (r:c<=b.length) (k:∀j (s:j < b.length),d b[j]=true↔a<=j/\j < c):(b.drop a).take (c - a)=b.filter d:=by
 have m:b=b.take a++((b.drop a).take (c - a)++(b.drop a).drop (c - a)):=by rw [zAu,zAu]
 conv=>rhs;rw [m]
 rw [List.filter_append,List.filter_append];have n:(b.take a).filter d= []:=List.filter_eq_nil_iff.2 fun l g f=>by obtain ⟨i,e,rfl⟩:=zBo.1 g;rw [zAj] at e;rw [List.getElem_take] at f;have:=(k i oM).1 f;omega
 have o:((b.drop a).take (c - a)).filter d=(b.drop a).take (c - a):=List.filter_eq_self.2 fun l g=>by obtain ⟨i,e,rfl⟩:=zBo.1 g;rw [zAj,zAw] at e;rw [List.getElem_take,List.getElem_drop];exact (k (a+i) oM).2 ⟨by omega,by omega⟩
 have p:((b.drop a).drop (c - a)).filter d= []:=List.filter_eq_nil_iff.2 fun l g f=>by obtain ⟨i,e,rfl⟩:=zBo.1 g;rw [zAw,zAw] at e;rw [List.getElem_drop,List.getElem_drop] at f;have:=(k (a+(c - a+i)) oM).1 f;omega
 rw [n,o,p];simp
def fT (a b:List UInt8):List Nat:=(List.range (a.length+1)).filter (tB (aF a) (dF b))
theorem aCu {b:List UInt8} {d:List Nat} (c:IsSuf (aF b) d) (a:List UInt8):((d.drop (Nq (aF b) false (dF a))).take (Nq (aF b) true (dF a) - Nq (aF b) false (dF a))).Perm (fT b a):=by
 have e:Nq (aF b) false (dF a)<=Nq (aF b) true (dF a):=by rw [aFg];omega
 rw [aEx (tB (aF b) (dF a)) d _ _ e (by rw [c.len];exact aKh _ _ _) (fun g f=>aJz c (dF a) g f)];have:=c.perm.filter (tB (aF b) (dF a));rw [aL] at this;exact this
theorem rX:∀(c d:List Int),c.Pairwise (fun a b=>a<=b)->d.Pairwise (fun a b=>a<=b)->c.Perm d->c=d
 | [],d,_,_,e=>e.nil_eq.symm ▸ rfl
 | a::c, [],_,_,e=>by simp at e
 | a::c,b::d,ha,hb,e=>by obtain ⟨j,k⟩:=List.pairwise_cons.1 ha;obtain ⟨l,m⟩:=List.pairwise_cons.1 hb;have n:a=b:=(by have g:a∈b::d:=e.mem_iff.1 (by simp);have i:b∈a::c:=e.mem_iff.2 (by simp);rcases List.mem_cons.1 g with f | g;exact f;rcases List.mem_cons.1 i with f | i;exact f.symm;have:=j b i;have:=l a g;omega);subst n;rw [rX c d k m (List.perm_cons a |>.1 e)]
theorem aCn {b:List UInt8} {e:List Nat} (d:IsSuf (aF b) e) (a:List UInt8):(((e.drop (Nq (aF b) false (dF a))).take (Nq (aF b) true (dF a) - Nq (aF b) false (dF a))).map fun c:Nat=>(c:Int)).mergeSort (fun f g=>decide (f<=g))=(fT b a).map fun c:Nat=>(c:Int):=by
 refine rX _ _ ?_ ?_ ((List.mergeSort_perm _ _).trans ((aCu d a).map _));have:=List.pairwise_mergeSort (le:=fun f g:Int=>decide (f<=g)) (fun i j k l m=>by simp at*;omega) (fun i j=>by simp;omega) (((e.drop (Nq (aF b) false (dF a))).take (Nq (aF b) true (dF a) - Nq (aF b) false (dF a))).map fun c:Nat=>(c:Int));exact this.imp fun d=>by simpa using d
 rw [List.pairwise_map];unfold fT;refine (List.Pairwise.filter _ List.pairwise_lt_range).imp fun {i j} d=>?_;omega
end
section
open Go.RowKit Go.Shelf
attribute [local go_sem] Oper.semAt_some
theorem aB8 (b:Option Addr) (d c:Nat) (a:World):
 Calls prog 181 #[.slice b d c] a fun e f=>e=.returned (.func (.func 216) #[] #[a.heap.size])/\f=a.alloc (.cells #[.slice b d c] 26):=by
 go_enter func181,ntmps181;go_wp2_with fail;go_ret;exact ⟨rfl,rfl⟩
def gO (a:List Nat) (b:List UInt8):Nat×Nat:=b.reverse.foldl (nG a) (0,a.length)
theorem aFH (b:List Nat) (c:List UInt8):∀a:Nat×Nat,a.1<=a.2->a.2<=b.length->(c.foldl (nG b) a).1<=(c.foldl (nG b) a).2/\(c.foldl (nG b) a).2<=b.length:=by
 induction c with
 | nil=>intro a d e;exact ⟨d,e⟩
 | cons g c f=>intro a d e;exact f _ (aGv b _ d) (vC b _ _)
theorem aJ0 (a:List UInt8):(bkL a a.length).map (·.2)=a.reverse:=by
 apply List.ext_getElem
 · simp [bkL]
 · intro b c e;have d:b < a.length:=(by simpa [bkL] using c);simp [bkL,List.getElem_reverse,d,show a.length - 1 - b < a.length by omega]
def aFy (a:Oper):Bool:=match a.op with
 | .defer _=>false
 | _=>true
theorem aIf {d:Array Oper} (e:d.toList.all aFy=true):∀(c:Nat) (a:Oper),d[c]?=some a->∀b,a.op≠.defer b:=by
 intro c a g b f;have:=zBf.1 e a (Array.mem_toList_iff.2 (Array.mem_of_getElem? g));unfold aFy at this;rw [f] at this;cases this
theorem zG {g:Nat->Prop} {f k:World} (j:VisF g f k) (m:∀b e,g b->f.heap[b]?=some e->e.isCells=true):KeepsOthers f k:=by
 refine ⟨j.size,fun b e c d=>?_⟩;by_cases i:g b
 · rw [m b e i c] at d;cases d
 · have n:b < f.heap.size:=(zAh.1 c).1;rcases j.block b n i with a |⟨l,o,a,_⟩|⟨l,o,a,_⟩;exact a.trans c
   · unfold Bk at a;rw [c] at a;injection a with a;subst a;cases d
   · unfold Bk at a;rw [c] at a;injection a with a;subst a;cases d
theorem sQ (r y:Nat) (c:List Nat) (E:Nat) (ad:Option Addr) (aa aw an:Nat) (aO:List Sl) (s:List UInt8) (N:Nat) (cn:gG aO=s) (bo:s.length=N) (l:World) (o:LvW l r y c) (a0:c.length=E+1) (cu:E<=900) (bn:∀H∈c,H < 257) (bL:Rd l an 1 ad aa (aO.map slV)) (bP:∀al∈aO,Rd l an 1 al.A al.n (al.l.map bv)) (cZ:an<=l.heap.size) (d8:aa<=1000000) (d9:N<=1000000):
 Calls prog 133 #[y,.slice ad aa aw] l fun d c2=>d=.returned (.tuple #[.int .i64 (((gO c s).1:Nat):Int),.int .i64 (((gO c s).2:Nat):Int)])/\VB r l c2:=by
 refine (callsIn_wide (n:=6)).1 ?_;refine callsIn_of_wp_marks func133 rfl trivial ?_ rfl;simp only [ntmps133,List.size_toArray,zCg,List.length_nil,Nat.reduceAdd,Nat.reduceSub,Array.replicate_succ,Array.replicate_zero,List.push_toArray,List.append_toArray,List.nil_append,List.cons_append];refine wpIn_wide.2 ?_;have d5:=o.lt;obtain ⟨bc,c7,cb,cc⟩:=hqq4 o bn bL bP;clear o bn bL bP;go_wp2_with fail;have aI:Below l.heap.size l (l.alloc (.cells #[y] 23)):=bR.alloc nL _;refine (bQ r y c E _ (bc.out.vis (Vis.of_below aI)) a0 oM).mono ?_;rintro d c2 ⟨rfl,rfl⟩;have O:IntKind.i64.wrap ((E:Int)+1)=((E+1:Nat):Int):=by rw [IntKind.wrap_i64];omega
 obtain ⟨ab,bK⟩:=eqx (E+1);have ax:(E:Int)+1=(ab:Int):=oM;have aB:=Bk.new l 23 #[y];obtain ⟨a6,b1⟩:=eqx l.heap.size;rw [b1] at aB;rw [b1];generalize l.alloc (.cells #[y] 23)=w1 at aI aB⊢;obtain ⟨aU,aQ,ca,bi⟩:=hqq4 aI aB bK a0;clear aI aB bK a0 b1;go_wp2_with fail;have P:=(Bk.new w1 3 #[.int .i64 0]).alloc (.cells #[(ab:Int)] 3);have K:=Bk.new (w1.alloc (.cells #[.int .i64 0] 3)) 3 #[(ab:Int)];rw [World.size_alloc] at K;have az:Below w1.heap.size w1 ((w1.alloc (.cells #[.int .i64 0] 3)).alloc (.cells #[(ab:Int)] 3)):=(bR.alloc nL _).alloc (by simp) _;obtain ⟨j,ai⟩:=eqx w1.heap.size;rw [ai] at P K;rw [ai];generalize (w1.alloc (.cells #[.int .i64 0] 3)).alloc (.cells #[(ab:Int)] 3)=a2 at P K az⊢;have aj:=aU.out.trans (az.mono aU.out.size);have bt:=aQ.out.below az aQ.out.lt;have ct:l.heap.size<=j:=by rw [<-ai];exact aU.out.size
 have d4:a6 < j:=by rw [<-ai];exact aQ.out.lt
 have bw:=mU ad aa aw an aO s N cn bo a2 (cb.out.keep fun ba D=>aj.cell oM) (fun al b7=>(cc.out al b7).keep fun ba D=>aj.cell oM) (by have:=aj.size;omega) oM oM;obtain ⟨I,M,au,aq⟩:=hqq4 P K aj bt;clear P K az aj bt ai O ax;refine bw.mono ?_;clear bw;rintro d ac ⟨L,Z,rfl,bH,V⟩;obtain ⟨bh,U⟩:=hqq2 bH V;clear bH V;go_wp2_with fail;refine (aB8 L N Z ac).mono ?_;rintro d a3 ⟨rfl,aJ⟩;have aC:=Bk.new ac 26 #[.slice L N Z];rw [<-aJ] at aC;have W:Below ac.heap.size ac a3:=aJ ▸bR.alloc nL _;have da:a3.heap.size=ac.heap.size+1:=by rw [aJ];simp
 obtain ⟨J,aF⟩:=eqx ac.heap.size;rw [aF] at aC;rw [aF];have cE:=lhd aF;clear aJ aF;have bF:=(I.out.below U.out I.out.lt).below W (zAl I.out.lt U.out.size);have bC:=(M.out.below U.out M.out.lt).below W (zAl M.out.lt U.out.size);have bu:=(aq.out.below U.out aq.out.lt).below W (zAl aq.out.lt U.out.size);have bS:Below l.heap.size l a3:=(au.out.trans (U.out.mono au.out.size)).trans (W.mono (by have:=au.out.size;have:=U.out.size;omega));have bI:=bh.out.below W;obtain ⟨bg,aR,be,av,ar,a4⟩:=hqq6 bF bC bu bS bI aC;clear bF bC bu bS bI aC W I M au aq bh;go_wp2_with fail;obtain ⟨B,V⟩:∃B,(∀b aN,L=some ⟨b,aN,none⟩->0 < N->b=B)/\∃w z,Bk a3 B w z/\w∈ [5,26]:=by rcases ar.out.own.2 with ⟨d,ck⟩|⟨aY,ci,cj,d,_,bB,_⟩;exact ⟨J,fun b aN _ ay=>by omega,_,_,a4.out,by simp⟩;injection d with d;exact ⟨aY,fun b aN o _=>by rw [d] at o;injection o with o;injection o with o _;exact o.symm,_,_,bB,by simp⟩
 have aZ:0 < N->L=some ⟨B,0,none⟩:=by
  intro ay;rcases ar.out.own.2 with ⟨d,ck⟩|⟨aY,ci,cj,d,_,bB,_⟩;omega
  · injection d with d;rw [d,V.1 aY 0 d ay]
 have bx:∀X,X < s.length->a3.cell? ⟨B,0+X,none⟩=some (.int .u8 ((s.getD X 0).toNat:Int)):=by intro X aG;have cx:=ar.out.rd;obtain ⟨b,aN,d,_,cq⟩:=cx.2 oM;rw [aZ oM] at d;injection d with d;injection d with O ax;subst O ax;refine cq X _ ?_;rw [zAf,zAa aG];simp [bv,zAb,zAa aG]
 have bM:SeqStopsK Fence.wide (6 - 1) prog 216 #[J] (fun H:Nat×UInt8=>#[(H.1:Int),.int .u8 (H.2.toNat:Int)]) (KpB J B) (fun c3=>c3=bkL s s.length) (fun _=>True) N a3:=by intro aL cf cg g bp d1 d2 co ay;have cr:=V.2;obtain ⟨w,z,ah,aE⟩:=cr;exact aB9 Fence.wide (6 - 1) trivial rfl oM aL J B 0 Z L s (fun o=>aZ oM) oM cf cg (fun G H ch ae bj=>co G H ch ae oM) g (by rw [bo];exact (a4.out.below bp a4.out.lt).cell 0) (fun X aG=>(bp.cell (p:=⟨B,0+X,none⟩) ah.lt).trans (bx X aG)) ay
 have bm:FInv l r y a6 j J B (.slice L N Z) c [] a3:=⟨bg.out,by
  have:=aR.out;rw [show (([]:List (Nat×UInt8)).map (·.2)).foldl (nG c) (0,c.length)=(0,c.length) from rfl,bi.out,ca.out];exact this,bc.out.vis (Vis.of_below av.out),be.out,a4.out,V.2,VisK.of_below av.out⟩
 have d7:=a4.out.lt;have W:=V.2;obtain ⟨aP,aT⟩:=hqq2 bm bM;have d6:=aR.out.lt;obtain ⟨dd,cI,bz,cs⟩:=W;have d3:=bz.lt;clear bM bm bx aZ V bz cs bg aR be ar a4;refine (wpIn_wide (n:=6)).1 ?_
 refine wpIn_rangeFunc_ownF (F:=Fence.wide) (n:=6) rfl oM (gf:=216) (lb:=#[.pointer (some ⟨J,0,none⟩)]) rfl trivial (enters_of func216 kR rfl) aT.out (fun o ak=>o.trans ak)
  (fun g aL cB db cu b4 _ _ ba D=>World.cell?_of_block (World.putObj_heap_other (fun d=>by rcases D with D | D <;> omega))) bR (fun _=>rfl)
  (fun G g=>FInv l r y a6 j J B (.slice L N Z) c G g) (fun _ _ _=>False) (FInv.own av.out.size) (fun _ _ _ _ _ b7 _ _=>b7) aP.out
  (fun H=> { tmps:=#[.pointer (some ⟨y,0,none⟩),.slice ad aa aw,.pointer (some ⟨a6,0,none⟩),undef,.int .i64 0,.int .i64 0,.pointer (some ⟨j,0,none⟩),.pointer (some ⟨j+1,0,none⟩),undef,.int .u8 (H.2.toNat:Int),.pointer (some ⟨y,0,none⟩),.bool false,.pointer (some ⟨y,0,none⟩),.int .i64 (E:Int),.int .i64 (ab:Int),.slice ad aa aw,.slice L N Z,.func (.func 216) #[] #[J],.int .i64 (H.1:Int),.int .u8 (H.2.toNat:Int),undef,undef,undef,undef,undef,undef,undef,undef,undef,undef,undef,undef,undef,undef],defers:= [] }) ?assign ?body ?done ?stop
 case assign=>
  intro aL H g cF e
  gi_wp2
  exact e
 case body=>
  rintro aL G ⟨bU,x⟩ g t _;obtain ⟨gk,c0,c1,dc,bE,bT⟩:=t.lv;obtain ⟨a9,P⟩:=eqx (((G.map (·.2)).foldl (nG c) (0,c.length)).1);obtain ⟨a8,K⟩:=eqx (((G.map (·.2)).foldl (nG c) (0,c.length)).2);have b0:=aFH c (G.map (·.2)) (0,c.length) (zAp _) nL;rw [P,K] at b0;obtain ⟨a1,bq⟩:=eqx (cH c (x.toNat+1) a9);obtain ⟨Y,u⟩:=eqx (cH c (x.toNat+1) a8);have b3:=t.lo;have b2:=t.hi;rw [P] at b3;rw [K] at b2;obtain ⟨aS,ce,I,M,c8,bf⟩:=hqq6 bE bT b3 b2 t.box b0;have ap:Hid (cH c (x.toNat+1) a9=a1/\cH c (x.toNat+1) a8=Y):=lhd ⟨bq,u⟩;have c4:=lhd t;have c9:Hid (((G.map (·.2)).foldl (nG c) (0,c.length))=(a9,a8)):=lhd (by rw [<-P,<-K]);clear bE bT b3 b2 b0 bq u t P K aP aT
  gi_wp2
  refine wpIn_region_any kR ?_;refine aDV (fun ⟨_,_,o⟩=>o) (aIf kR) _ _ _ _ ?_;refine cA r 13 [21,22,23,24,25,26,27,28,29,20,30,31] (fun b=>b=j) 12 [0,1,2,3,4,5,6,7,8,9,10,12] (fun a2=>VB r g a2) (fun _ a2=>Bk a2 j 3 #[(a1:Int)]) [is y,is y,is y,is gk,is (a9:Int),is (a8:Int),is (.int .u8 (x.toNat:Int)),is (.int .i64 ((x.toNat+1:Nat):Int)),is (.tuple #[(a1:Int),(Y:Int)]),is (.tuple #[(a1:Int),(Y:Int)]),is (a1:Int),is (Y:Int),cX] _ _ rfl dC kR kR kR (VisK.of_below bR.drew) (fun _ _ o _ ak=>o.trans ak) (fun _ _ _ o ak=>ak.1.bk o dC dC) tA1 ?_ ?_
  · refine bJ ?_;refine sC3 (fun C v _ k _ _ Q _ _ _ _ e=>?_) ?_
    · have a:=k rfl;have ax:C (.tmp 2)=.pointer (some ⟨a6,0,none⟩):=Q 2 kR;replace a:VB r g v:=(by first|exact a|exact bD a);have a5:=(a.1.bk c8.out dC dC).cell 0;go_simp;exact e _ _ (aH vR) rfl
    refine sC3 (fun _ v _ k _ _ _ q _ _ _ e=>?_) ?_
    · have a:=k rfl;have cK:_=_:=q 0 21 kR rfl;replace a:VB r g v:=(by first|exact a|exact bD a);have a5:=(a.1.bk aS.out dC dC).cell 0;go_simp;exact e _ _ (aH vR) rfl
    refine sC3 (fun _ v _ k _ _ _ q _ _ _ e=>?_) ?_
    · have a:=k rfl;have cL:_=_:=q 1 22 kR rfl;replace a:VB r g v:=(by first|exact a|exact bD a);have a5:=(a.1.bk aS.out dC dC).cell 0;go_simp;exact e _ _ (aH vR) rfl
    refine sC3 (fun _ v _ k _ _ _ q _ _ _ e=>?_) ?_
    · have a:=k rfl;have cM:_=_:=q 2 23 kR rfl;replace a:VB r g v:=(by first|exact a|exact bD a);have a5:=(a.1.bk aS.out dC dC).cell 0;go_simp;exact e _ _ (aH vR) rfl
    refine sC3 (fun C v _ k _ _ Q _ _ _ _ e=>?_) ?_
    · have a:=k rfl;have cm:C (.tmp 6)=.pointer (some ⟨j,0,none⟩):=Q 6 kR;replace a:VB r g v:=(by first|exact a|exact bD a);have a5:=(a.1.bk I.out dC dC).cell 0;go_simp;exact e _ _ (aH vR) rfl
    refine sC3 (fun C v _ k _ _ Q _ _ _ _ e=>?_) ?_
    · have a:=k rfl;have cU:C (.tmp 7)=.pointer (some ⟨j+1,0,none⟩):=Q 7 kR;replace a:VB r g v:=(by first|exact a|exact bD a);have a5:=(a.1.bk M.out dC dC).cell 0;go_simp;exact e _ _ (aH vR) rfl
    refine sC3 (fun C _ _ k _ _ Q _ _ _ _ e=>?_) ?_
    · have a:=k rfl;have cV:C (.tmp 9)=.int .u8 (x.toNat:Int):=Q 9 kR;go_simp;exact e _ _ (aH vR) rfl
    refine sC3 (fun _ v _ k _ _ _ q _ _ _ e=>?_) ?_
    · have a:=k rfl;have cQ:_=_:=q 6 27 kR rfl;go_simp;refine (pC x v).mono ?_;rintro d cD ⟨rfl,cp⟩;exact e _ _ (aH (VisK.of_below cp)) rfl
    refine sC3 (fun _ v _ k _ _ _ q _ _ _ e=>?_) ?_
    · have a:=k rfl;have cN:_=_:=q 3 24 kR rfl;have cO:_=_:=q 4 25 kR rfl;have cP:_=_:=q 5 26 kR rfl;have cR:_=_:=q 7 28 kR rfl;replace a:VB r g v:=(by first|exact a|exact bD a);go_simp;refine (xX r gk c a9 a8 (x.toNat+1) v (ce.out.vis a.1) (by have:=x.toNat_lt;omega) bf.out.1 bf.out.2 c7.out (by rw [bi.out];omega)).mono ?_;rintro d cD ⟨rfl,cz⟩;rw [ap.out.1,ap.out.2];exact e _ _ (aH cz) rfl
    refine sC3 (fun _ _ _ k _ _ _ q _ _ _ e=>?_) ?_
    · have a:=k rfl;have cS:_=_:=q 8 29 kR rfl;go_simp;exact e _ _ (aH vR) rfl
    refine sC3 (fun _ _ _ k _ _ _ q _ _ _ e=>?_) ?_
    · have a:=k rfl;have cJ:_=_:=q 9 20 kR rfl;go_simp;exact e _ _ (aH vR) rfl
    refine pV3 9 20 ?_;refine sC3 (fun C v _ k _ _ Q q _ _ _ e=>?_) ?_
    · have a:=k rfl;have cm:C (.tmp 6)=.pointer (some ⟨j,0,none⟩):=Q 6 kR;have cT:_=_:=q 10 30 kR rfl;replace a:VB r g v:=(by first|exact a|exact bD a);have b9:=a.1.bk I.out dC dC;have a5:=b9.cell 0;have cY:=b9.frozen 0;go_simp;exact e (.bool true) _ (jQ (VFB.put (F:=fun b=>b=j) (VFB.of_vb vR) (p:=⟨j,0,none⟩) (.inl rfl) _)) (b9.set 0 _)
    exact aD
  · intro C am m af q br;replace af:VFB r (fun b=>b=j) g am:=fD af;have cl:C (.tmp 31)=.int .i64 (Y:Int):=q 11 31 dC rfl;obtain ⟨cC,bZ⟩:=br 12 dC;have bY:(fun _ a2=>Bk a2 j 3 #[(a1:Int)]) cC am:=bZ;clear bZ br;simp only [zqq];rw [cl];clear q;have aK:=af.1.bk M.out dC dC (fun d=>by omega);have cG:=aK.cell 0;have cW:=aK.frozen 0;change wpAny prog Region.Mode.any _ _ (1+m) (bX 13 14) _ am;rw [zCs 1 m];refine bG (f:=m) (i:=13) kR ?_;refine bV rfl rfl ?_;generalize e:wpAny prog _ _ _ m _=K5;go_simp;subst e;refine bW kR ?_;have bA:((G++ [(bU,x)]).map (·.2)).foldl (nG c) (0,c.length)=(a1,Y):=(by rw [zAz,List.foldl_append,c9.out];show (cH c (x.toNat+1) a9,cH c (x.toNat+1) a8)=_;rw [ap.out.1,ap.out.2]);have b8:l.heap.size<=j:=ct;have cw:j≠j+1:=oM;have bO:VFB r (fun b=>b=j∨b=j+1) g (am.setCell ⟨j+1,0,none⟩ (.int .i64 (Y:Int))):=(by exact VFB.put (af.wider fun b d=>.inl d) (.inl (.inr rfl)) _);have bN:=bO.1;have t:=c4.out;obtain ⟨w,z,ah,aE⟩:=t.dat;have a7:w≠202/\w≠154/\w≠3:=by simp at aE;rcases aE with rfl | rfl <;> decide
    have ag:∀b w z,Bk g b w z->w≠202->w≠154->w≠3->Bk (am.setCell ⟨j+1,0,none⟩ (.int .i64 (Y:Int))) b w z:=fun b w z u ae bj bl=>bN.bk u ae bj (fun m=>by
        rcases m with m | m;subst m;exact bl (aM u I.out).1
        · subst m;exact bl (aM u M.out).1)
    have cv:=t.lv.visI af.1 I.out bY;change KeepsOthers g _/\KpB J B g _/\FInv l r y a6 j J B (.slice L N Z) c (G++ [(bU,x)]) _;refine ⟨zG bN (fun b cB m b4=>?_),?_,?_,?_,?_,ag _ _ _ t.box dC dC dC,ag _ _ _ t.bs dC dC dC,⟨w,z,ag _ _ _ ah a7.1 a7.2.1 a7.2.2,aE⟩,?_⟩;rcases m with m | m;subst m;have:=I.out;unfold Bk at this;rw [b4] at this;injection this with this;subst this;rfl;subst m;have:=M.out;unfold Bk at this;rw [b4] at this;injection this with this;subst this;rfl
    · intro ba D;rcases D with D | D
      · have O:=(ag _ _ _ t.bs dC dC dC).trans t.bs.symm;rw [<-D] at O;exact World.cell?_of_block O
      · have O:=(ag _ _ _ ah a7.1 a7.2.1 a7.2.2).trans ah.symm;rw [<-D] at O;exact World.cell?_of_block O
    rw [bA];exact bY.far (p:=⟨j+1,0,none⟩) cw _;rw [bA];exact aK.set 0 _;exact cv.sameT fun b w z cy u=>u.far (p:=⟨j+1,0,none⟩) (fun d=>by subst d;exact cy (aM u aK).1) _;have ae:VFB r (fun b=>b=j∨b=j+1) l g:=VFB.of_vb t.vis;exact (ae.trans bO).to_vb (fun b u m=>by rcases m with m | m <;> omega)
 case done=>
  rintro ao c3 g d0 rfl t e;have aV:=t.lo.cell 0;have aW:=t.hi.cell 0;rw [aJ0] at aV aW;change g.cell? ⟨j,0,none⟩=some (.int .i64 (((gO c s).1:Nat):Int)) at aV;change g.cell? ⟨j+1,0,none⟩=some (.int .i64 (((gO c s).2:Nat):Int)) at aW;obtain ⟨c0,b5⟩:=eqx ((gO c s).1);obtain ⟨c1,b6⟩:=eqx ((gO c s).2);rw [b5] at aV;rw [b6] at aW;obtain ⟨cd,c5⟩:=hqq2 t.vis e;have bd:Hid ((gO c s).1=c0/\(gO c s).2=c1):=lhd ⟨b5,b6⟩;clear t aP aT b5 b6 e;go_wp2_with fail;go_quiet (fail);go_wp2_with fail;have c6:(g.drewN nq).heap[ao]?=some (.deferred (some [])):=c5.out;refine ⟨by simp,.inl ⟨_,_,rfl,run_takeDeferred c6,?_⟩⟩;refine ⟨_,results_tmp2 rfl _ _ _,by rw [bd.out.1,bd.out.2];rfl,?_⟩;have T:=cd.out;have aA:∀b,b < l.heap.size->((g.drewN nq).putObj ao (.deferred none)).heap[b]?=g.heap[b]?:=fun b u=>World.putObj_heap_other (by have:=av.out.size;omega);have b8:l.heap.size<=((g.drewN nq).putObj ao (.deferred none)).heap.size:=by have:=T.1.size;simpa using this
  refine ⟨⟨T.1.os,T.1.tape,T.1.output,b8,fun b u a0=>?_⟩,⟨T.1.os,T.1.tape,T.1.output,b8,fun b u a0=>(aA b u).trans (T.2.block b u a0)⟩⟩;rcases T.1.block b u a0 with d |⟨z,bb,d,aX⟩|⟨z,bb,d,aX⟩;exact .inl ((aA b u).trans d);exact .inr (.inl ⟨z,bb,d,(aA b u).trans aX⟩);exact .inr (.inr ⟨z,bb,d,(aA b u).trans aX⟩)
 case stop=>intro ao x G g _ _ o _;exact o.elim
end
section
theorem aCv {a d:List Nat} {l:Nat} (c:IsSuf a d) (f:EndOk a l) (b:List UInt8):gO (aE a d) b=(Nq a false (dF b),Nq a true (dF b)):=by
 have j:(aE a d).length=a.length:=by rw [bP,c.len]
 unfold gO;rw [j]
 induction b with
 | nil=>
   obtain ⟨g,i⟩:=aKY a;show (0,a.length)=(Nq a false [],Nq a true []);rw [g,i]
 | cons e b k=>
   rw [List.reverse_cons,List.foldl_append,k];show (cH _ (e.toNat+1) (Nq a false (dF b)),cH _ (e.toNat+1) (Nq a true (dF b)))=_;rw [aFA c f _ _ _ oM,aFA c f _ _ _ oM];rfl
theorem aGO {a:List UInt8} {c:List Nat} (d:IsSuf (aF a) c) (b:List UInt8):(gO (aE (aF a) c) b).2 -(gO (aE (aF a) c) b).1=occ (aF a) (dF b):=by
 rw [aCv d (eE a),aFg];omega
end
section
open Go.RowKit Go.Shelf
theorem aAd (j k:Nat) (a:List Nat) (n:Nat) (i:Option Addr) (f p d:Nat) (g:List Sl) (b:List UInt8) (N:Nat) (D:gG g=b) (C:b.length=N) (c:World) (r:LvW c j k a) (G:a.length=n+1) (E:n<=900) (s:∀J∈a,J < 257) (w:Rd c d 1 i f (g.map slV)) (x:∀o∈g,Rd c d 1 o.A o.n (o.l.map bv)) (B:d<=c.heap.size) (F:f<=1000000) (H:N<=1000000):
 Calls prog 76 #[k,.slice i f p] c fun q z=>q=.returned (.int .i64 (((gO a b).2 -(gO a b).1:Nat):Int))/\VB j c z:=by
 have v:=sQ j k a n i f p d g b N D C c r G E s w x B F H;have e:=aFH a b.reverse (0,a.length) (zAp _) nL;change (gO a b).1<=(gO a b).2/\(gO a b).2<=a.length at e;obtain ⟨y,u⟩:=eqx ((gO a b).1);obtain ⟨m,t⟩:=eqx ((gO a b).2);rw [u,t] at v e⊢;have L:=e.1;have M:m<=1000:=oM;have K:IntKind.i64.wrap ((m:Int) -(y:Int))=((m - y:Nat):Int):=by rw [IntKind.wrap_i64];omega
 clear r w x u t e s;go_enter func76,ntmps76;go_wp2_with fail;refine v.mono ?_;rintro q z ⟨rfl,I⟩;go_wp2_with fail;go_ret;exact ⟨fB oM,I⟩
end
section
open Go.RowKit
theorem aH3 (f:List Nat) (e:List Nat):∀c,tB f e c=true↔∀(a d:Nat),e[a]?=some d->aN f (c+a)=(d:Int):=by
 induction e with
 | nil=>intro c;exact ⟨fun _ a d b=>by simp at b,fun _=>rfl⟩
 | cons l e k=>
   intro c;rw [aAv,zBd,zCa,k];constructor
   · rintro ⟨g,i⟩ a d b;rcases a with _ | a;simp at b;subst b;exact g
     · have:=i a d (by simpa using b);rwa [show c+(a+1)=c+1+a by omega]
   · intro b;refine ⟨b 0 l (by simp),fun a d j=>?_⟩;have:=b (a+1) d (by simpa using j);rwa [show c+1+a=c+(a+1) by omega]
theorem aEp (c k:List UInt8) (d:Nat):tB (aF c) (dF k) d=true↔∀(a:Nat) (b:UInt8),k[a]?=some b->c[d+a]?=some b:=by
 rw [aH3];constructor
 · intro f a b g;have:=f a (b.toNat+1) (by unfold dF;rw [zAf,g];rfl);cases j:c[d+a]? with
   | none=>
     exfalso;have m:=List.getElem?_eq_none_iff.1 j;rcases Nat.eq_or_lt_of_le m with e | e
     · have:aN (aF c) (d+a)=0:=by
         rw [kP (x:=0)];rfl
         · unfold aF dF;rw [zAo (by simp;omega)];simp [e]
       omega
     have:aN (aF c) (d+a)=-1:=mZ (by rw [aL];omega);omega
   | some l=>
     rw [pB c j] at this;have e:l.toNat=b.toNat:=oM;rw [UInt8.toNat_inj.1 e]
 intro f a n i;unfold dF at i;rw [zAf] at i;obtain ⟨b,g,rfl⟩:=Option.map_eq_some_iff.1 i;exact pB c (f a b g)
theorem aEn (e b:List UInt8):e.isPrefixOf b=true↔∀(d:Nat) (c:UInt8),e[d]?=some c->b[d]?=some c:=by
 rw [List.isPrefixOf_iff_prefix];constructor;rintro ⟨i,rfl⟩ d c a;rw [zAn (by obtain ⟨j,_⟩:=zAc.1 a;exact j)];exact a
 · intro a
   induction e generalizing b with
   | nil=>exact List.nil_prefix
   | cons f e m=>
     cases b with
     | nil=>exact absurd (a 0 f rfl) (by simp)
     | cons n b=>
       have g:=a 0 f rfl;simp at g;subst g;obtain ⟨i,l⟩:=m b fun d c k=>by simpa using a (d+1) c (by simpa using k)
       exact ⟨i,by rw [List.cons_append,l]⟩
theorem aCG (g f:List UInt8) (e:Nat):tB (aF g) (dF f) e=f.isPrefixOf (g.drop e):=by
 rw [Bool.eq_iff_iff,aEp,aEn];constructor;intro b d a c;rw [zBt];exact b d a c;intro b d a c;have:=b d a c;rw [zBt] at this;exact this
theorem aEG (b c:List UInt8):∀a,b.length+1 - c.length<=a->a<=b.length+1->gR b c a=fC b c:=by
 intro a e
 induction a with
 | zero=>
   intro _;have:b.length+1 - c.length=0:=oM;rw [fC,this]
 | succ a g=>
   intro i;rcases Nat.eq_or_lt_of_le e with d | d
   · rw [fC,d]
   · rw [aAA,g oM oM];cases f:c.isPrefixOf (b.drop a) with
     | false=>rfl
     | true=>
       exfalso;have:=(List.isPrefixOf_iff_prefix.1 f).length_le;rw [zAw] at this;omega
theorem rH (a b:List UInt8):fT a b=fC a b:=by
 rw [<-aEG a b (a.length+1) oM nL];unfold fT gR;congr 1;funext i;exact aCG a b i
theorem aEq (b a:List UInt8):(fT b a).length=occ (aF b) (dF a):=by
 unfold fT occ;rw [List.countP_eq_length_filter,aL]
end
end Go.Proofs.YthldmddkfbijhaaGreatDoor
