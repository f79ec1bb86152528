/- Lemmas of the walk. Conditions: each its own. -/
import Derived.Test.YtcoooelofcejbaaGreatDoorPd23
import Derived.Test.YtcoooelofcejbaaGreatDoorProg
import Derived.Test.YtcoooelofcejbaaGreatDoorShl
import Derived.Test.YtcoooelofcejbaaGreatDoorSht
set_option linter.all false
set_option maxRecDepth 100000
set_option maxHeartbeats 4000000
open Go.Proofs.Tryz
namespace Go.Proofs.YtcoooelofcejbaaGreatDoor
section
open Go.RowKit
def TpAt (j:World) (e f:Nat) (a:List UInt8) (i:Nat):Prop:=
 ∃d gk g c,IsSuf (aF a) d/\LiveG j e f gk g i (a.length+1) (aD (aF a) d) c/\(∀b∈c,d[b.1]?=some b.2)/\(∃b∈c,b.2=0)/\a.length<=127
def TpAt.vis {e w':World} {a b:Nat} {d:List UInt8} {c:Nat} (g:TpAt e a b d c) (l:Vis e w'):TpAt w' a b d c:=by
 obtain ⟨n,gk,f,m,i,j,k⟩:=g;exact ⟨n,gk,f,m,i,j.vis l,k⟩
def VB.grow {l:Nat} {k w1 m:World} (b:VB l k w1) (a:Below k.heap.size w1 m):VB l k m:=
 ⟨⟨a.os.trans b.1.os,a.tape.trans b.1.tape,a.output.trans b.1.output,zAk b.1.size a.size,fun d c i=>by
   rcases b.1.block d c i with n |⟨e,j,f,g⟩|⟨e,j,f,g⟩;exact .inl ((a.block d c).trans n);exact .inr (.inl ⟨e,j,f,g.below a c⟩)
   · exact .inr (.inr ⟨e,j,f,g.below a c⟩)⟩,
  ⟨a.os.trans b.2.os,a.tape.trans b.2.tape,a.output.trans b.2.output,zAk b.2.size a.size,fun d c i=>(a.block d c).trans (b.2.block d c i)⟩⟩
def TpAt.mono {d:World} {B B' a:Nat} {c:List UInt8} {b:Nat} (f:TpAt d B a c b) (k:B'<=B):TpAt d B' a c b:=by
 obtain ⟨m,gk,e,l,g,i,j⟩:=f;exact ⟨m,gk,e,l,g,i.mono k,j⟩
def aEU (a:World) (c:TypeId) (b:Array Value) (d:Nat×Nat) (e:Nat) (f:b.size=e):Rd (a.alloc (.cells b c d)) (a.heap.size+1) 1 (some ⟨a.heap.size,0,none⟩) e b.toList:=by
 refine ⟨by simp [f],fun _=>⟨_,0,rfl,by omega,fun i j g=>?_⟩⟩;rw [zBi,cell_of_row (a.alloc (.cells b c d)) a.heap.size i b c d (heap_alloc_new a _)];simpa using g
def aFG (b:World) (a:Array Value) (d c:Nat):(convert 34 34 (.slice (some b.heap.size) d c)).run prog (b.alloc (.cells a 5))=.ok (.slice (some b.heap.size) d c) (b.alloc (.cells a 5 (a.size,a.size+1))):=
 Lib.run_convert_bytes_const (P:=prog) b 34 5 a d c underlying34 underlying5
end
section
section
variable {S R : List Nat} {N : Nat}
def aI9 (k:EndOk S N) {a c:Nat} (o:a < N) (m:0 < c):EndOk (S.set a c) N:=by
 obtain ⟨g,i,j⟩:=k;have f:∀b,(S.set a c).getD b 0=if a=b/\b < S.length then c else S.getD b 0:=fun b=>by
  rw [zAb,zBm,zAb];by_cases d:a=b
  · subst d;by_cases e:a < S.length
    · simp [e]
    · simp [e]
  · simp [d]
 refine ⟨by rw [zAt,g],?_,fun n l=>?_⟩
 · rw [f,zBw oM,i]
 rw [f];split;exact m;exact j n l
def aHn {S:List Nat} {a s:Nat} (e:a < S.length) (b:Nat):(S.set a s).getD b 0=if b=a then s else S.getD b 0:=by
 rw [zAb,zBm,zAb];by_cases c:b=a
 · subst c;simp [e]
 · rw [zBw (fun d=>c d.symm),zBw c]
def KS (S R:List Nat) (c b a:Nat):Bool:=decide (S.getD a 0 < b∨(S.getD a 0=b/\ro R (a+1) < ro R (c+1)))
def aCm (L:IsSuf S R) (m:EndOk S (N+1)) {c i:Nat} (Y:c<=N) (T:0 < i) {row:Nat} (Z:row<=N+1)
 (u:∀b,b<=N+1->b≠c->b+1≠c->(aU (ro R b) (ro R c) < row↔KS S R c i b=true))
 (E:∀b,b+1=c->(aU (ro R b) (ro R c) < row->S.getD b 0<=i)/\(row<=aU (ro R b) (ro R c)->i<=S.getD b 0)):
 Near (S.set c i) (aP (aG R (ro R c)) row c) (N+1) c:=by
 have l:=L.near m;have X:=m.len;have O:=l.nodup;have k:∀a,a<=N+1->a∈R:=fun a d=>l.mem.2 d;have x:=l.len;have C:∀a b,a<=N+1->b<=N+1->a≠b->ro R a≠ro R b:=fun a b d e z p=>z (eH (k a d) (k b e) p);obtain ⟨J,D,r⟩:=uR O (t:=row) (bT (k c oM)) oM;obtain ⟨j,M⟩:∃j,aP (aG R (ro R c)) row c=j:=⟨_,rfl⟩;rw [M] at J D r⊢;have q:∀a b,a<=N+1->b<=N+1->a≠c->b≠c->(ro j a < ro j b↔ro R a < ro R b):=fun a b d e n I=>by rw [r a (k a d) n,r b (k b e) I];have v:=C a c d oM n;have W:=C b c e oM I;unfold inR aU;split <;> split <;> split <;> split <;> omega
 have H:∀a,a<=N+1->a≠c->(ro j a < ro j c↔aU (ro R a) (ro R c) < row):=fun a d n=>by rw [D,r a (k a d) n];unfold inR;split <;> omega
 have G:∀a,a<=N+1->a≠c->(ro j c < ro j a↔¬aU (ro R a) (ro R c) < row):=fun a d n=>by rw [D,r a (k a d) n];unfold inR;split <;> omega
 have w:=aHn (s:=i) (show c < S.length by omega);refine ⟨aI9 m oM T,J.trans l.perm,fun a b d e B=>?_,fun a b d e z a0 a1=>?_⟩;rw [w,w];by_cases g:a=c;subst g;rw [zBx rfl];by_cases f:b=a;rw [zBx f];exact zAs _;rw [zBw f];have v:=(G b e f).1 B;by_cases o:b+1=a;exact (E b o).2 oM;have:=u b e f o;unfold KS at this;rw [zCa] at this;omega;rw [zBw g];by_cases f:b=c;subst f;rw [zBx rfl];have v:=(H a d g).1 B;by_cases o:a+1=b;exact (E a o).1 v;have:=(u a d g o).1 v;unfold KS at this;rw [zCa] at this;omega;rw [zBw f];exact l.first a b d e ((q a b d e g f).1 B)
 · have y:∀A,A<=N+1->S.getD A 0≠0->A < N+1:=fun A U V=>Nat.lt_of_le_of_ne U fun p=>by subst p;exact V m.last
   unfold tC;rw [w,w];by_cases g:a=c;subst g;have f:b≠a:=fun p=>z p.symm;rw [zBx rfl,zBw f,G b e f,u b e f oM];unfold KS;rw [zCa];by_cases F:S.getD b 0=i;have Q:=y b e oM;rw [q (a+1) (b+1) oM oM oM oM];have:=C (b+1) (a+1) oM oM oM;omega;omega
   · rw [zBw g];by_cases f:b=c
     · subst f;rw [zBx rfl,H a d g,u a d g oM];unfold KS;rw [zCa];by_cases F:S.getD a 0=i
       · have P:=y a d oM;rw [q (a+1) (b+1) oM oM oM oM]
       omega
     · rw [zBw f,q a b d e g f,l.cons a b d e z oM oM];unfold tC;by_cases F:S.getD a 0=S.getD b 0
       · by_cases K:S.getD a 0=0;have a2:a=N+1:=Nat.le_antisymm d (zCs.1 fun x=>by have:=m.pos a x;omega);have a3:b=N+1:=Nat.le_antisymm e (zCs.1 fun x=>by have:=m.pos b x;omega);omega
         · have P:=y a d K;have Q:=y b e oM;rw [q (a+1) (b+1) oM oM oM oM]
       omega
def aKl (I:IsSuf S R) (U:EndOk S (N+1)) {a s:Nat} (L:a<=N):(∀b,b<=N+1->b≠a->(aU (ro R b) (ro R a) < (aG R (ro R a)).countP (KS S R a s)↔KS S R a s b=true))/\(aG R (ro R a)).countP (KS S R a s)<=N+1:=by
 have f:=I.near U;have a4:=f.nodup;have n:∀d,d<=N+1->d∈R:=fun d o=>f.mem.2 o;obtain ⟨G,t,u,H⟩:=aA8 f.perm L;have z:∀d b,d<=N+1->b<=N+1->d≠b->ro R d≠ro R b:=fun d b o q W k=>W (eH (n d o) (n b q) k);have B:∀ {e c:Nat},(aG R (ro R a))[e]?=some c->c<=N+1/\c≠a/\e=aU (ro R c) (ro R a):=fun {e c} g=>by have j:=(H c).1 (zAd g);refine ⟨f.mem.1 j.1,j.2,?_⟩;have K:=u c j.1 j.2;obtain ⟨v,w⟩:=zAc.1 g;obtain ⟨x,y⟩:=zAc.1 K;rcases Nat.lt_trichotomy e (aU (ro R c) (ro R a)) with b | b | b;exact absurd (by rw [w,y]) (zAr.1 t _ _ v x b);exact b;exact absurd (by rw [w,y]) (zAr.1 t _ _ x v b)
 have X:(aG R (ro R a)).Pairwise fun d b=>KS S R a s b=true->KS S R a s d=true:=by
  rw [zAr];intro e r M O a3 m;obtain ⟨c,g⟩:=eqx ((aG R (ro R a))[e]);obtain ⟨i,A⟩:=eqx ((aG R (ro R a))[r]);have Q:(aG R (ro R a))[e]?=some c:=by rw [zAa M,g]
  have T:(aG R (ro R a))[r]?=some i:=by rw [zAa O,A]
  rw [g];rw [A] at m;obtain ⟨C,a0,D⟩:=B Q;obtain ⟨E,a1,F⟩:=B T;have a5:=z c a C oM a0;have a6:=z i a E oM a1;have V:ro R c < ro R i:=by unfold aU at D F;split at D <;> split at F <;> omega
  have Z:c≠i:=fun k=>by subst k;omega
  have P:=(f.cons c i C E Z oM oM).1 V;unfold tC at P;unfold KS at m⊢;rw [zCa] at m⊢;omega
 refine ⟨fun b q Y=>(aAS X _ _ (u b (n b q) Y)).symm,?_⟩;have a2:=zBh (p:=KS S R a s) (l:=aG R (ro R a));have J:=G.length_eq;rw [zCg,f.len] at J;omega
def aKm (o:IsSuf S R) (g:EndOk S (N+1)) {a b:Nat} (q:a<=N) (v:0 < b):(aG R (ro R a)).countP (KS S R a b)+(if S.getD a 0 < b then 1 else 0)=(aD S R).countP (fun w=>decide (w < b))+(((aG ((aD S R).set (ro R (a+1)) b) (ro R a)).take (aU (ro R (a+1)) (ro R a))).count b+if ro R a < ro R (a+1)/\bE S a=b then 1 else 0):=by
 have d:=o.near g;have A:=d.nodup;have f:∀c,c<=N+1->c∈R:=fun c u=>d.mem.2 u;obtain ⟨l,x,y,z⟩:=aA8 d.perm q;have i:=bT (f a oM);have r:ro R a < (aD S R).length:=by rw [bF];exact (zAc.1 i).1
 have t:ro R a≠ro R (a+1):=fun m=>by have:=eH (f a oM) (f (a+1) oM) m;omega
 have p:(aD S R).getD (ro R a) 0=bE S a:=by unfold aD;rw [zAb,zAf,i];rfl
 have k:=aG6 (s:=b) r t;rw [p] at k;rw [k];have j:=qV g d.perm v (ro R (a+1));unfold cB at j;rw [j];unfold aA1;rw [<-d.perm.countP_eq,<-l.countP_eq,zBn];have n:(aG R (ro R a)).countP (fun c=>decide (S.getD c 0 < b∨(S.getD c 0=b/\ro R (c+1) < ro R (a+1))))=(aG R (ro R a)).countP (KS S R a b):=rfl;rw [n];congr 1;by_cases e:S.getD a 0 < b
 · rw [zBx e,zBx (zBz (.inl e))]
 rw [zBw e,zBw];rw [zCa];omega
def aI8 (m:IsSuf S R) (k:EndOk S (N+1)) {c s:Nat} (q:c<=N) (w:0 < s) {n0 row:Nat} {a:Int} (D:a=if c=0 then -1 else ((aU (ro R (c - 1)) (ro R c):Nat):Int))
 (M:n0+(if S.getD c 0 < s then 1 else 0)=(aD S R).countP (fun J=>decide (J < s))+((aG ((aD S R).set (ro R (c+1)) s) (ro R c)).take (aU (ro R (c+1)) (ro R c))).count s)
 (n:row=if bE S c=s/\a<=(n0:Int) then n0+1 else n0):
 row<=N+1/\Near (S.set c s) (aP (aG R (ro R c)) row c) (N+1) c:=by
 have A:=m.near k;have r:∀d,d<=N+1->d∈R:=fun d f=>A.mem.2 f;have C:=k.len;have t:∀d b,d<=N+1->b<=N+1->d≠b->ro R d≠ro R b:=fun d b f g v e=>v (eH (r d f) (r b g) e);obtain ⟨o,x⟩:=aKl (s:=s) m k q;have E:=aKm m k q w;obtain ⟨l,G⟩:=eqx ((aG R (ro R c)).countP (KS S R c s));rw [G] at o x E;have hrel:n0+(if ro R c < ro R (c+1)/\bE S c=s then 1 else 0)=l:=oM;have F:(row=l)∨(∃b,b+1=c/\S.getD b 0=s/\aU (ro R b) (ro R c)=l/\row=l+1):=by
  by_cases j:bE S c=s
  · have u:c≠0:=fun e=>by subst e;rw [bI oM,C,zBb,k.last] at j;omega
    obtain ⟨b,rfl⟩:∃b,c=b+1:=⟨c - 1,by omega⟩;rw [aT oM] at j;rw [zBw u,zBb] at D;have g:=o b oM oM;unfold KS at g;rw [zCa,j] at g;rw [aT oM,j] at hrel n;by_cases p:ro R (b+1) < ro R (b+1+1);left;rw [zBx ⟨p,rfl⟩] at hrel;have:aU (ro R b) (ro R (b+1)) < l:=g.2 (.inr ⟨rfl,p⟩);rw [zBx ⟨rfl,by omega⟩] at n;omega
    · rw [zBw (fun e=>p e.1)] at hrel;have K:¬aU (ro R b) (ro R (b+1)) < l:=fun e=>by rcases g.1 e with z | z;omega;exact p z.2
      by_cases y:aU (ro R b) (ro R (b+1))=l;right;rw [zBx ⟨rfl,by omega⟩] at n;exact ⟨b,rfl,j,y,by omega⟩;left;rw [zBw (fun e=>y oM)] at n;omega
  left;rw [zBw (fun e=>j e.2)] at hrel;rw [zBw (fun e=>j e.1)] at n;omega
 have H:∀d b,d<=N+1->b<=N+1->d≠c->b≠c->d≠b->aU (ro R d) (ro R c)≠aU (ro R b) (ro R c):=fun d b f g i I v=>by have U:=t d c f oM i;have V:=t b c g oM I;have W:=t d b f g v;unfold aU;split <;> split <;> omega
 rcases F with rfl |⟨b,P,Q,T,rfl⟩;refine ⟨x,aCm m k q w x (fun d f i _=>o d f i) (fun d i=>?_)⟩;have:=o d oM oM;unfold KS at this;rw [zCa] at this;omega;have L:aU (ro R b) (ro R c) < N+1:=(by have u:=(zAc.1 (bT (r b oM))).1;have B:=(zAc.1 (bT (r c oM))).1;rw [A.len] at u B;have:=t b c oM oM oM;unfold aU;split <;> omega);refine ⟨by omega,aCm m k q w oM (fun d f i O=>?_) (fun d i=>?_)⟩;rw [<-o d f i];have:=H d b f oM i oM oM;omega;obtain rfl:d=b:=oM;omega
def aF8 (f:R.Perm (List.range (N+1+1))) (n:EndOk S (N+1)) {b s row:Nat} (r:b<=N):aD (S.set b s) (aP (aG R (ro R b)) row b)=aP (aG ((aD S R).set (ro R (b+1)) s) (ro R b)) row (bE S b):=by
 have p:R.Nodup:=f.nodup_iff.2 List.nodup_range;have q:=n.len;have o:∀a,a∈R->a<=N+1:=fun a g=>by have:=zCj.1 (f.mem_iff.1 g);omega
 have i:b+1∈R:=f.mem_iff.2 (zCj.2 oM);have j:=aHn (s:=s) (show b < S.length by omega);have k:∀a,a<=N+1->bE (S.set b s) a=if a=b+1 then s else bE S a:=fun a t=>by
  rcases a with _ | a
  · rw [zBw oM,bI (by rw [zAt];omega),bI oM,zAt,j,zBw oM]
  · rw [aT (by rw [zAt];omega),aT oM,j];by_cases d:a=b
    · rw [zBx d,zBx oM]
    · rw [zBw d,zBw oM]
 unfold aD;rw [mZ,rJ,k b oM,zBw oM];congr 2;apply List.ext_getElem?;intro m;rw [zAf,zBm,zAf];cases c:R[m]? with
 | none=>
   have:¬ro R (b+1)=m:=fun e=>by rw [<-e,bT i] at c;cases c
   rw [zBw this];rfl
 | some a=>
   have g:=zAd c;have l:=fF p c;show some (bE (S.set b s) a)=_;rw [k a (o a g)];by_cases d:a=b+1
   · subst d;rw [zBx rfl,zBx l,zBx (by rw [l];simpa using (zAc.1 c).1)]
   rw [zBw d,zBw (fun e=>d ?_)];rfl;rw [<-e,bT i] at c;injection c with c;exact c.symm
end
end
section
open Go.RowKit
def nE (b:List Nat) (c a:Nat):Array Value:=((b.take a).map sv++List.replicate (c - a) (Value.int .i64 0)).toArray
def aD8 (b:List Nat) (a:Nat):nE b a 0=Array.replicate a (Value.int .i64 0):=by
 unfold nE;apply Array.ext';simp
def aGh {a:List Nat} {b:Nat} (c:a.length=b):nE a b b=(a.map sv).toArray:=by
 unfold nE;rw [zAg oM,Nat.sub_self];simp
def aD9 {b:List Nat} {a:Nat} (c:Nat) (d:b.length=a) (e:c<=a):(nE b a c).size=a:=by
 unfold nE;simp;omega
def aGg {b:List Nat} {c a e:Nat} (i:b.length=c) (d:b[a]?=some e):(nE b c a).setIfInBounds a (.int .i64 (e:Int))=nE b c (a+1):=by
 have j:=(zAc.1 d).1;apply Array.ext';unfold nE;rw [Array.toList_setIfInBounds,zAv,d];have f:c - a=(c -(a+1))+1:=oM;rw [f,List.replicate_succ];have g:((b.take a).map sv).length=a:=by rw [zBc,zAj];omega
 show List.set ((b.take a).map sv++(Value.int .i64 0::List.replicate (c -(a+1)) (Value.int .i64 0))) a _=_;rw [List.set_append_right _ _ oM,g,Nat.sub_self,zAz,zCo];rfl
def iH (d:World) (f:Nat) (a:List Nat) (g:Ending) (e:World):Prop:=∃b c,g=.returned (.slice b a.length c)/\Made e d.heap.size 3 1 b a.length c (a.map sv)/\VB f d e
def aCN {f g:Nat} {e:List Nat} {b:World} (C:WaveAt b f g e) (D:∀a8∈e,a8 < 257) (I:e.length<=1000):
 Calls prog 202 #[g] b (iH b f e):=by
 have P:=C;obtain ⟨a4,S,m,i,a7⟩:=C;obtain ⟨c,r⟩:=eqx e.length;rw [r] at i;have a3:b.cell? ⟨g,9,none⟩=some (.int .i64 (c:Int)):=(i.cell 9).trans (bV S c m).2.2.2.2.2.2.2.2.2.1;have A:b.cell? ⟨g,10,none⟩=some (.int .i64 m):=(i.cell 10).trans (bV S c m).2.2.2.2.2.2.2.2.2.2;have af:=i.lt;have a6:=mS c oM;obtain ⟨a2,W,V,d,Z⟩:=hqq5 P i D r I;rw [r] at I;clear P i D r a7;unfold iH;go_enter func202,ntmps202;go_wp2_with fail;have F:Bk (b.alloc (.cells (Array.replicate c (.int .i64 0)) 3)) b.heap.size 3 (nE e c 0):=by rw [aD8];exact Bk.new _ _ _
 have L:VB f b (b.alloc (.cells (Array.replicate c (.int .i64 0)) 3)):=vR.alloc _;go_loopw [19] (fun x wr=>∃a:Nat,a<=c/\x=.int .i64 (a:Int)/\Bk wr b.heap.size 3 (nE e c a)/\VB f b wr) (fun x _=>c -(intOf x).toNat)
 case atStart=>exact ⟨0,zAp _,rfl,F,L⟩
 case round=>
  obtain ⟨a,ae,rfl,E,u⟩:=hrel;clear F L a6 a3 A;have ag:=u.1.size;obtain ⟨y,o⟩:=hqq2 E u;clear E u;by_cases t:a < c
  · obtain ⟨l,K⟩:∃l,e[a]?=some l:=⟨_,zAa (by rw [d.out];exact t)⟩;have z:=lhd K;clear K;go_wp2_with fail;refine (dR a l (a2.out.vis o.out.1) (by rw [d.out];exact t) (zAc.1 z.out).2 V.out Z.out).mono ?_;rintro a9 U ⟨rfl,v⟩;have k:=v.1.bk y.out dC dC;have w:=o.out.trans v;have ad:=k.lt;have ab:=k.frozen a;have s:=k.set a (.int .i64 (l:Int));rw [aGg d.out z.out] at s;have a5:∃Q,U.cell? ⟨b.heap.size,a,none⟩=some Q:=⟨_,(k.cell a).trans (zAq (by rw [aD9 a d.out oM];exact t))⟩;obtain ⟨Q,ah⟩:=a5;have M:VB f b (U.setCell ⟨b.heap.size,a,none⟩ (.int .i64 (l:Int))):=⟨Vis.fresh w.1 (p:=⟨b.heap.size,a,none⟩) nL _,Keep.setCell w.2 (p:=⟨b.heap.size,a,none⟩) (.inr nL) _⟩;obtain ⟨X,a0⟩:=hqq2 s M;clear k s v w M;go_wp2_with fail;go_roundw
    case rel=>exact ⟨a+1,by omega,by go_num,X.out,a0.out⟩
    case measure=>simp [intOf];omega
  · obtain rfl:a=c:=oM;have q:=y.out;rw [aGh d.out] at q;obtain ⟨T,j⟩:=o.out.1.waveC W.out;have A:wr.cell? ⟨g,10,none⟩=some (.int .i64 T):=(j.cell 10).trans (bV S a T).2.2.2.2.2.2.2.2.2.2;have aa:=j.frozen 10;have ac:=j.lt;have O:=o.out.trans (VB.set_wave j a4 m);have J:=Bk.ne q j dC;have G:=q.far (p:=⟨g,10,none⟩) J (.int .i64 m);have H:=aD0 (B:=b.heap.size) (n:=a) G nL (by rw [zBc];exact d.out) (by unfold maxLen;omega);obtain ⟨Y,a1⟩:=hqq2 H O;clear q j O G H J;go_wp2_with fail;go_ret;exact ⟨_,_,by rw [d.out];rfl,by rw [d.out];exact Y.out,a1.out⟩
def aCQ {d gk:Nat} {a:List Nat} {c:World} (p:WalkAt c d gk a) (r:∀s∈a,s < 257) (i:a.length<=1000):
 Calls prog 128 #[gk] c (iH c d a):=by
 obtain ⟨w,v,e,f,q⟩:=p;have t:=e.cell 0;have b:=aCN f r i;unfold iH at b⊢;obtain ⟨x,j⟩:=eqx a.length;rw [j] at b⊢;clear e f q j i;go_enter func128,ntmps128;go_wp2_with fail;refine b.mono ?_;rintro u y ⟨l,o,rfl,g,k⟩;obtain ⟨m,n⟩:=hqq2 g k;clear b g k;go_wp2_with fail;go_ret;exact ⟨l,o,rfl,m.out,n.out⟩
def sH {Bw gl gk gp N rate:Nat} {L:List Nat} {j:List (Nat×Nat)} {w:World} (b:LiveG w Bw gl gk gp rate N L j) (n:∀o∈L,o < 257) (e:L.length<=1000):
 Calls prog 78 #[gl] w (iH w Bw L):=by
 obtain ⟨r,c⟩:=b.blk;have p:=c.cell 0;have a:=aCQ b.walk n e;clear c;unfold iH at a⊢;obtain ⟨s,f⟩:=eqx L.length;rw [f] at a⊢;clear b f e;go_enter func78,ntmps78;go_wp2_with fail;refine a.mono ?_;rintro q t ⟨i,m,rfl,d,g⟩;obtain ⟨k,l⟩:=hqq2 d g;clear a d g;go_wp2_with fail;go_ret;exact ⟨i,m,rfl,k.out,l.out⟩
def sE {Bw gl gk gp e rate:Nat} {L:List Nat} {c:List (Nat×Nat)} {w:World} (a:LiveG w Bw gl gk gp rate e L c):
 Calls prog 132 #[gl] w fun d f=>d=.returned (.int .i64 (rate:Int))/\w=f:=by
 obtain ⟨i,b⟩:=a.blk;have g:=b.cell 2;clear a b;go_enter func132,ntmps132;go_wp2_with fail;go_ret;exact ⟨rfl,rfl⟩
def aJY (a:List Nat):a.map sv=(iM a).map iv:=by
 unfold iM;rw [zCh];rfl
def eY (d:World) (f:Nat) (a:List UInt8) (g:Ending) (e:World):Prop:=
 ∃b c,g=.returned (.tuple #[.slice b a.length c,.int .i64 0])/\Made e d.heap.size 5 1 b a.length c (a.map bv)/\VB f d e
def rU {Bw gl gk gp rate most:Nat} {t:List UInt8} {rs:List Nat} {C:List (Nat×Nat)} {w:World} (F:LiveG w Bw gl gk gp rate (t.length+1) (aD (aF t) rs) C) (bY:∀j∈C,rs[j.1]?=some j.2) (y:IsSuf (aF t) rs) (bO:t.length<=127) (bW:1<=rate) (da:rate<=64) (cE:t.length<=most) (d3:most<=2147483648):
 Calls prog 81 #[gl,(most:Int)] w (eY w Bw (dN (aD (aF t) rs) rs most rate t.length)):=by
 obtain ⟨cc,bA,c9,ca,cb⟩:=info_parts jV;obtain ⟨e,aA⟩:=eqx (aD (aF t) rs);have M:=cL (rs:=rs) (dM t);have a1:e.length=t.length+1:=by rw [<-aA,bF,y.len,aK]
 have aU:∀d w1,VB Bw w w1->d*rate<=t.length->Calls prog 87 #[gl,.int .i64 ((d*rate:Nat):Int)] w1 fun f cU=>f=.returned (.int .i64 ((rs.idxOf (d*rate):Nat):Int))/\VB Bw w1 cU:=fun d w1 z bD=>by have cG:d*rate∈rs:=y.mem (by rw [aK];omega);exact fE (t:=t) (rs:=rs) (C:=C) (i:=(rs.idxOf (d*rate))) (p:=(d*rate)) Bw gl gk gp rate w1 (F.vis z.1) bY y bO (zAc.2 ⟨List.idxOf_lt_length_iff.2 cG,List.getElem_idxOf _⟩)
 rw [aA] at F M⊢;obtain ⟨N,bp⟩:=eqx t.length;have bB:∀j,rs.idxOf j<=128:=fun j=>by have:=List.idxOf_le_length (a:=j) (l:=rs);rw [y.len,aK] at this;omega
 have ac:=sH (Bw:=Bw) (gl:=gl) (gk:=gk) (gp:=gp) (N:=(t.length+1)) (rate:=rate) (L:=e) (w:=w) F M oM;unfold iH at ac;rw [bp] at a1 aU cE bO⊢;rw [a1] at ac;have bE:=F.lvw;have bU:=aD6 M;have bx:=lX e;rw [a1] at bx;obtain ⟨a6,co,ct,cV,ar,cs,cl⟩:=hqq7 F bE aU M a1 bU bB;have cR:¬most < N:=oM;have dk:decide (most < N)=false:=zBy cR;have cS:¬((most:Int) > 2147483648):=oM;have dl:decide ((most:Int) > 2147483648)=false:=zBy cS;have di:0 < w.heap.size:=Nat.lt_of_le_of_lt (zAp _) F.lt;clear bY F bE aU M a1 bU aA y bp bB;unfold eY;go_enter func81,ntmps81;go_wp2_with fail;refine (bM (B:=Bw) (gl:=gl) (n:=N) (w:=w) co.out ar.out oM).mono ?_;rintro f w1 ⟨rfl,rfl⟩;go_wp2_with fail;refine ac.mono ?_;clear ac;rintro f w1 ⟨cg,cu,rfl,bG,c4⟩;have aV:=aEy (B:=w1.heap.size) (w:=w1) cg (N+1) cu (iM e) (by rw [<-aJY];exact bG.rd) nL oM;rw [cs.out] at aV;have aw:=lhd c4;clear bG c4;go_wp2_with fail;refine aV.mono ?_;clear aV;rintro f D ⟨cM,bq⟩;obtain ⟨bn,aZ,bo,Z,rfl,aJ⟩:=cM.resolve_right (fun ⟨cI,_⟩=>by cases cI);injection Z with Z;obtain ⟨ah,a0⟩:=eqx ((fG e).length);rw [<-Z,a0] at aJ;rw [<-Z,a0];rw [a0] at bx;have c5:VB Bw w D:=aw.out.below bq;have V:=lhd c5;have bd:=lhd (aJ.mono (B':=w.heap.size) aw.out.1.size);have cm:=lhd a0;clear bq Z aJ a0 c5 aw;go_wp2_with fail;go_loopw [8,9] (fun cT s wr=>∃d o:Nat,d<=N / rate+1/\s=.int .i64 ((d*rate:Nat):Int)/\wr.ownsRow D.heap.size 5 1 cT o ((aAJ rs rate d).map bv)/\VB Bw D wr) (fun _ s _=>(N+65 -(intOf s).toNat))
 case atStart=>exact ⟨0,0,zAp _,by simp,World.ownsRow_nil _ _ _ _,VisK.refl _ _⟩
 case round=>
  obtain ⟨d,o,bD,rfl,O,z⟩:=hrel;have d8:o<=12000:=by have cy:=O.1;have cW:=mR rs rate d;have cX:N / rate<=N:=Nat.div_le_self _ _;simp at cy;omega
  obtain ⟨u,aQ⟩:=eqx (d*rate);have a3:=V.out.trans z;have ad:=bM (B:=Bw) (gl:=gl) (n:=N) (w:=wr) (a6.out.vis a3.1).lvw ar.out oM;have df:=a3.1.size;have dg:=z.1.size;by_cases M:u<=N
  · have af:=ct.out d wr a3 oM;have aP:=sU rs rate d;obtain ⟨j,aW⟩:=eqx (rs.idxOf (d*rate));have dj:j<=128:=(by rw [<-aW];exact cl.out _);have cH:=aKh bW (by omega:d*rate<=N);have cK:(d+1)*rate=u+rate:=(by rw [Nat.add_mul,aQ,Nat.one_mul]);rw [aW] at af aP;rw [aQ] at af;rw [aQ];obtain ⟨ai,aI⟩:=eqx ((bS j).length);have d2:ai<=11:=(by rw [<-aI];exact bZ j);have d7:u<=127:=oM;obtain ⟨cq,cn,x,U⟩:=hqq4 aP aI z O;clear aP aI z O a3 aW;go_wp2_with fail;refine ad.mono ?_;clear ad;rintro f P ⟨rfl,rfl⟩;go_wp2_with fail;refine af.mono ?_;clear af;rintro f P ⟨rfl,ag⟩;have bR:=ag.1.own U.out dC dC;have bj:=lhd bR;have c8:=x.out.trans ag;have dh:=ag.1.size;have bl:=lhd c8;clear bR ag c8 U x;go_wp2_with fail;refine (xT (l:=[j]) (bs:=(bS j)) (k:=ai) _ (pR j) cn.out (Rd.made _ _ 1 1 _ rfl) nL (by simp;omega) oM).mono ?_;rintro f g ⟨Q,X,rfl,a2,Y⟩;have q:=((Below.refl P.heap.size P).alloc nL (.cells #[.int .u64 (j:Int)] 164)).trans (Y.mono (by simp));have G:g.ownsRow D.heap.size 5 1 u8 o ((aAJ rs rate d).map bv):=aM (bj.out) q;have c1:=q.size;obtain ⟨a7,av⟩:=hqq2 a2.rd (lS (bS j));have c6:=bl.out.below q;have c2:D.heap.size<=g.heap.size:=oM;have W:=lhd c6;clear a2 Y q bj bl c6;go_wp2_with (at_builtin;refine bK _ rfl (.tmp 41) (.tmp 47) _ rfl D.heap.size 5 cc (.int .u8 0) 1 1 underlying34 bA c9 ca cb rfl dC u8 o _ rfl G g.heap.size Q ai X _ rfl a7.out av.out (by unfold maxLen;omega) oM c2 ?_;intro dn aY bT bz cA);have r:=bC (Below.refl D.heap.size g) G bz c2;have c7:=VB.grow W.out r;obtain ⟨bm,cr⟩:=hqq2 c7 bT;clear G bT bz cA r c7 W;have bX:=sE (Bw:=Bw) (gl:=gl) (gk:=gk) (gp:=gp) (rate:=rate) (L:=e) (w:=aY) (a6.out.vis (V.out.trans bm.out).1);go_wp2_with fail;refine bX.mono ?_;clear bX;rintro f ce ⟨rfl,rfl⟩;have cZ:IntKind.i64.wrap ((u:Int)+(rate:Int))=((u+rate:Nat):Int):=(by rw [IntKind.wrap_i64];omega);go_wp2_with fail;go_roundw
    case rel=>
        refine ⟨d+1,o+ai,cH,?_,?_,bm.out⟩
        · rw [cK]
          first | rfl | exact dV oM
        rw [cq.out,zAz];exact cr.out
    case measure=>simp [intOf];omega
  · go_wp2_with fail;refine ad.mono ?_;clear ad;rintro f P ⟨rfl,rfl⟩;have cD:=aKk bW bD oM;subst cD;rw [<-qJ] at O;obtain ⟨U,x⟩:=hqq2 O z;clear O z a3;go_wp2_with fail;refine (sE (Bw:=Bw) (gl:=gl) (gk:=gk) (gp:=gp) (rate:=rate) (L:=e) (w:=wr) (a6.out.vis (V.out.trans x.out).1)).mono ?_;rintro f P ⟨rfl,rfl⟩;go_wp2_with fail;refine (bM (B:=Bw) (gl:=gl) (n:=N) (w:=wr) (a6.out.vis (V.out.trans x.out).1).lvw ar.out oM).mono ?_;rintro f P ⟨rfl,rfl⟩;go_wp2_with fail;obtain ⟨a4,aH⟩:=eqx ((dE [most,rate,N]).length);have d1:a4<=33:=(by rw [<-aH];have:=wQ [most,rate,N];simpa using this);have bc:=lhd aH;clear aH;refine (xT (l:=[most,rate,N]) (bs:=(dE [most,rate,N])) (k:=a4) _ rfl bc.out (Rd.made _ _ 1 3 _ rfl) nL (by simp;omega) oM).mono ?_;rintro f g ⟨Q,X,rfl,a2,Y⟩;have q:=((Below.refl wr.heap.size wr).alloc nL (.cells #[.int .u64 (most:Int),.int .u64 (rate:Int),.int .u64 (N:Int)] 164)).trans (Y.mono (by simp));have c1:=q.size;have G:g.ownsRow D.heap.size 5 1 u8 o ((uI rs rate N).map bv):=aM (U.out) q;have bQ:g.ownsRow w.heap.size 5 1 (.slice aZ ah bo) ah ((fG e).map bv):=aM (x.out.1.own bd.out.own dC dC) q;obtain ⟨cj,cx,rfl,bI⟩:=aR G;obtain ⟨be,bk,a7,W⟩:=hqq4 bI.rd (Rd.of_own bQ) a2.rd ((V.out.trans x.out).below q);have bV:(uI rs rate N).length=o:=(by have:=G.1;simpa using this);clear a2 Y q G bQ bI U bd x;have cQ:=aFG g;go_wp2_with fail;have ae:=aEU g 5 #[.int .u8 83,.int .u8 75,.int .u8 82,.int .u8 49] (4,5) 4 rfl;obtain ⟨I,ab⟩:=eqx g.heap.size;rw [ab] at ae;have r:Below g.heap.size g (g.alloc (.cells #[.int .u8 83,.int .u8 75,.int .u8 82,.int .u8 49] 5 (4,5))):=(Below.refl g.heap.size g).alloc nL _;have cO:(g.alloc (.cells #[.int .u8 83,.int .u8 75,.int .u8 82,.int .u8 49] 5 (4,5))).heap.size=I+1:=(by simp [ab]);have a8:=bk.out.below r;have a9:=be.out.below r;have aa:=a7.out.below r;have aB:=W.out.below r;rw [ab] at a8 a9 aa r c1⊢;generalize g.alloc (.cells #[.int .u8 83,.int .u8 75,.int .u8 82,.int .u8 49] 5 (4,5))=aY at ae r cO a8 a9 aa aB⊢;obtain ⟨bg,b0,b1,b3,ba⟩:=hqq5 ae a8 a9 aa aB;clear ae a8 a9 aa aB r bk be a7 W ab cQ;have cY:N / rate<=N:=Nat.div_le_self _ _;have cN:=mR rs rate (N / rate+1);rw [<-qJ,bV] at cN;have d9:o<=12000:=oM;obtain ⟨aj,aL⟩:=eqx ((dP (fG e)).length);obtain ⟨ak,aN⟩:=eqx ((dP (uI rs rate N)).length);have d4:aj<=30000:=(by rw [<-aL,gR,cm.out];have:=bZ ah;omega);have d5:ak<=30000:=(by rw [<-aN,gR,bV];have:=bZ o;omega);have aS:=rV (A:=aZ) (n:=ah) (B:=I) (b:=(fG e)) (w:=aY) bo b0.out oM oM;rw [aL] at aS;refine aS.mono ?_;clear aS;rintro f ce ⟨al,ax,rfl,bJ,J⟩;have db:=J.size;obtain ⟨bh,b2,b4,b6,bb⟩:=hqq5 (bg.out.below (J.mono oM)) (b1.out.below (J.mono oM)) (b3.out.below (J.mono oM)) bJ.rd (ba.out.below J);clear J bJ bg b0 b1 b3 ba;go_wp2_with fail;have aT:=rV (A:=cj) (n:=o) (B:=I) (b:=(uI rs rate N)) (w:=ce) cx b2.out oM oM;rw [aN] at aT;refine aT.mono ?_;clear aT;rintro f v ⟨am,ay,rfl,bL,K⟩;have dc:=K.size;obtain ⟨bi,b5,b7,b8,ao⟩:=hqq5 (bh.out.below (K.mono oM)) (b4.out.below (K.mono oM)) (b6.out.below K) bL.rd (bb.out.below K);clear K bL bh b2 b4 b6 bb;go_wp2_with fail;obtain ⟨E,aG⟩:=eqx (oS e rs most rate N);obtain ⟨H,aO⟩:=eqx E.length;have d6:H<=100000:=by rw [<-aO,<-aG];unfold oS;rw [zAi,zAi,zAi,bc.out,aL,aN];have:gF.length=4:=rfl;omega
    have bw:=mG (A0:=(some ⟨v.heap.size,0,none⟩)) (m0:=4) (B:=(v.heap.size+1)) (ss:=[⟨some ⟨I,0,none⟩,4,4,gF⟩,⟨Q,a4,X,dE [most,rate,N]⟩,⟨al,aj,ax,dP (fG e)⟩,⟨am,ak,ay,dP (uI rs rate N)⟩]) (T:=E) (N:=H) (w:=(v.alloc (.cells #[.slice (some I) 4 4,.slice Q a4 X,.slice al aj ax,.slice am ak ay] 34))) 4 (by rw [<-aG];unfold oS;simp [gK]) aO ((Rd.made v _ 1 4 _ rfl).mono (by simp)) (by
        intro a5 y;simp at y;rcases y with rfl | rfl | rfl | rfl;exact ((bi.out.mono (B':=v.heap.size) oM).alloc nL _).mono oM;exact ((b5.out.mono (B':=v.heap.size) oM).alloc nL _).mono oM;exact ((b7.out.mono (B':=v.heap.size) oM).alloc nL _).mono oM
        · exact (b8.out.alloc nL _).mono oM) (by simp) oM oM
    refine bw.mono ?_;clear bw;rintro f cf ⟨an,az,rfl,bN,bt⟩;have br:=((Below.refl v.heap.size v).alloc nL (.cells #[.slice (some I) 4 4,.slice Q a4 X,.slice al aj ax,.slice am ak ay] 34)).trans (bt.mono (by simp));have ap:=lhd (ao.out.below br);have dd:=ap.out.1.size;have au:=lhd (bN.mono (B':=w.heap.size) (by simp;have:=ao.out.1.size;omega));clear bN bt br ao bi b5 b7 b8;go_wp2_with fail;refine (lL (A:=an) (n:=H) (c:=az) (b:=E) _ ((au.out.rd.alloc oM _).mono (by simp)) oM (Rd.made _ _ 1 1 _ rfl)).mono ?_;rintro f dq ⟨rfl,bu⟩;have aE:=((Below.refl cf.heap.size cf).alloc nL (.cells #[.slice an H az] 34)).trans (bu.mono (by simp));obtain ⟨bf,aq⟩:=hqq2 (au.out.below aE) (ap.out.below aE);have de:=aq.out.1.size;clear bu aE au ap;go_wp2_with fail;refine (aAu (lD E) _).mono ?_;rintro f cd ⟨ch,cv,rfl,bH,aC⟩;obtain ⟨cp,b9⟩:=hqq2 (bf.out.below aC) (aq.out.below aC);have c0:=b9.out.1.size;have ck:=lhd bH.rd;have bP:=cp.out.own;have av:=lhd (lS (rH (lD E)));clear bH aC bf aq;go_wp2_with (at_builtin;refine bK _ rfl (.tmp 68) (.tmp 72) _ rfl w.heap.size 5 cc (.int .u8 0) 1 1 underlying34 bA c9 ca cb rfl dC (.slice an H az) H _ rfl bP cd.heap.size ch 4 cv _ rfl ck.out av.out (by unfold maxLen;omega) oM c0 ?_;intro dm dp cJ cC d0);have cz:=VB.grow b9.out (bC (Below.refl w.heap.size cd) bP cC c0);obtain ⟨ci,cw,rfl,cF⟩:=aR cJ;go_ret2;have c3:dN e rs most rate N=E++rH (lD E):=(by unfold dN;rw [aG]);have cP:(dN e rs most rate N).length=H+4:=(by rw [c3,zAi,aO,nB]);rw [cP,c3,zAz];exact ⟨ci,cw,rfl,cF,cz⟩
@[irreducible] def zerC (m:Nat):Array Value:=jP .i64 m fun _=>0
@[irreducible] def filC (e:List Nat) (d:Nat):Array Value:=jP .i64 257 fun a5=>if a5 < d then cB e a5 0 else 0
@[irreducible] def firC (e:List Nat) (d:Nat):Array Value:=jP .i64 257 fun a5=>cB e a5 d
@[irreducible] def toC (e:List Nat) (m d:Nat):Array Value:=jP .i64 m fun s=>if s < d then cB e (e.getD s 0) s else 0
@[irreducible] def seenC (rs:List Nat) (m aX:Nat):Array Value:=jP .i64 m fun s=>if aX < rs.getD s 0 then 1 else 0
@[irreducible] def txtC (t:List UInt8) (aX:Nat):Array Value:=jP .u8 t.length fun u=>if u < aX then 0 else (t.getD u 0).toNat
def aEL (a:Nat):Array.replicate a (Value.int .i64 0)=zerC a:=by unfold zerC;exact oL _ _
def aGj (a:List Nat):Array.replicate 257 (Value.int .i64 0)=filC a 0:=by
 unfold filC;rw [oL];exact cW fun c b=>by rw [zBw oM]
def aIh {L:List Nat} {a:Nat} (e:a < 257):(filC L a).setIfInBounds a (.int .i64 ((L.countP (fun f=>decide (f < a)):Nat):Int))=filC L (a+1):=by
 unfold filC;rw [lH e];refine cW fun d g=>?_;by_cases b:d=a
 · subst b;rw [zBx rfl,zBx oM];unfold cB;simp
 · rw [zBw b];by_cases c:d < a
   · rw [zBx c,zBx oM]
   · rw [zBw c,zBw oM]
def aIj (a:List Nat):filC a 257=firC a 0:=by
 unfold filC firC;exact cW fun c b=>by rw [zBx b]
def aIi {L:List Nat} {k a:Nat} (b:a < 257):∃c,(filC L k)[a]?=some c:=by
 unfold filC;exact ⟨_,fK b⟩
def aIf {b:List Nat} {c a:Nat} (d:a < 257):(firC b c)[a]?=some (.int .i64 ((cB b a c:Nat):Int)):=by
 unfold firC;exact fK d
def aIe {b:List Nat} {c a:Nat} (f:b[c]?=some a) (e:a < 257):(firC b c).setIfInBounds a (.int .i64 ((cB b a c+1:Nat):Int))=firC b (c+1):=by
 unfold firC;rw [lH e];refine cW fun g i=>?_;rw [aF4 f];by_cases d:g=a
 · subst d;simp
 · rw [zBw d,zBw d]
def aG3 (b:List Nat) (a:Nat):zerC a=toC b a 0:=by
 unfold zerC toC;exact cW fun d c=>by rw [zBw oM]
def aEN {b:List Nat} {d c a:Nat} (e:a < d):(toC b d c)[a]?=some (.int .i64 (((if a < c then cB b (b.getD a 0) a else 0:Nat)):Int)):=by
 unfold toC;exact fK e
def aI1 {b:List Nat} {c a g:Nat} (j:b[a]?=some g) (i:a < c):(toC b c a).setIfInBounds a (.int .i64 ((cB b g a:Nat):Int))=toC b c (a+1):=by
 unfold toC;rw [lH i];refine cW fun f k=>?_;by_cases d:f=a;subst d;rw [zBx rfl,zBx oM,zAb,j];rfl
 · rw [zBw d];by_cases e:f < a
   · rw [zBx e,zBx oM]
   · rw [zBw e,zBw oM]
def aDE {b:List Nat} {d c:Nat} (f:∀a∈b,a<=c):zerC d=seenC b d c:=by
 unfold zerC seenC;refine cW fun g i=>?_;rw [zBw];rw [zAb];cases e:b[g]? with
 | none=>simp
 | some a=>simpa using f a (zAd e)
def aFR {d:List Nat} {c b a:Nat} (e:a < c) (f:d[a]?=some b):(seenC d c b)[a]?=some (.int .i64 0):=by
 unfold seenC;rw [fK e,zAb,f];simp
def aFQ {a:List Nat} {n b c:Nat} {o:List Nat} (m:IsSuf o a) (q:a.length=n) (l:c < n) (g:a[c]?=some (b+1)):(seenC a n (b+1)).setIfInBounds c (.int .i64 ((1:Nat):Int))=seenC a n b:=by
 unfold seenC;rw [lH l];refine cW fun j p=>?_;by_cases e:j=c
 · subst e;rw [zBx rfl,zAb,g,zBx (by simp)]
 · rw [zBw e];obtain ⟨d,i⟩:∃d,a[j]?=some d:=⟨_,zAa oM⟩;have r:d≠b+1:=fun k=>e (uQ m (by rw [i,k]) g);rw [zAb,i];simp only [Option.getD_some];by_cases f:b+1 < d
   · rw [zBx f,zBx oM]
   · rw [zBw f,zBw oM]
def aFu (a:List UInt8):Array.replicate a.length (Value.int .u8 0)=txtC a a.length:=by
 unfold txtC;rw [oL];exact cW fun c b=>by rw [zBx b]
def aGY {b:List UInt8} {a:Nat} {c:UInt8} (f:b[a]?=some c):(txtC b (a+1)).setIfInBounds a (bv c)=txtC b a:=by
 have i:=(zAc.1 f).1;unfold txtC bv;rw [lH i];refine cW fun g j=>?_;by_cases d:g=a;subst d;rw [zBx rfl,zBw oM,zAb,f];rfl
 · rw [zBw d];by_cases e:g < a
   · rw [zBx e,zBx oM]
   · rw [zBw e,zBw oM]
def aGZ {t:List UInt8} {j a:Nat} (b:a < t.length):∃c,(txtC t j)[a]?=some c:=by
 unfold txtC;exact ⟨_,fK b⟩
def aG0 (b:List UInt8):(txtC b 0).toList=b.map bv:=by
 unfold txtC;rw [aGu];apply List.ext_getElem?;intro c;rw [zAf,zAf];by_cases a:c < b.length
 · rw [zCk a,zAa a];simp [bv,a]
 rw [zBg (by simpa using a),zBg (by simpa using a)];rfl
def aFv (a:List UInt8) (b:Nat):(txtC a b).size=a.length:=by unfold txtC;exact lG _ _ _
def aFU (a:Nat) (j:a<=1000000) (b:World):(Instr.makeSlice 34 (.int .i64 (a:Int)) (.int .i64 (a:Int))).run prog b=.ok (.slice (some b.heap.size) a a) (b.alloc (.cells (Array.replicate a (.int .u8 0)) 5)):=by
 obtain ⟨i,d,e,f,g⟩:=info_parts uO;have:=run_make (P:=prog) b 34 5 i (.int .u8 0) underlying34 d e .i64 .i64 a a oM (Int.le_refl _) (by rw [g];omega) oM;rw [this,f];have c:madeCells #[.int .u8 0] a=Array.replicate a (.int .u8 0):=by apply Array.ext';rw [toList_madeCells_one];simp
 simp only [Value.cells,zBr,zBl];rw [c]
def xQ (a7:Option Addr) (V:Nat) {B:Nat} {t:List UInt8} {rs:List Nat} {w:World} (am:IsSuf (aF t) rs) (ac:Rd w B 1 a7 (t.length+1) ((aD (aF t) rs).map sv)) (aX:B<=w.heap.size) (cu:t.length<=127):
 Calls prog 170 #[.slice a7 (t.length+1) V] w fun r bp=>∃br bx,r=.returned (.tuple #[.slice br t.length bx,.bool true])/\Made bp w.heap.size 5 1 br t.length bx (t.map bv)/\Below w.heap.size w bp:=by
 obtain ⟨e,aE⟩:=eqx (aD (aF t) rs);have E:=cL (rs:=rs) (dM t);have b1:=aEh am;have b9:e.length=t.length+1:=by rw [<-aE,bF,am.len,aK]
 rw [aE] at ac E b1;obtain ⟨N,ai⟩:=eqx t.length;obtain ⟨b,bc⟩:=eqx (N+1);rw [ai,bc] at ac b9;rw [ai] at cu;have bU:=rQ (A:=a7) (m:=b) (B:=B) (L:=e) (w:=w) V ac aX oM E;obtain ⟨Z,a4,rfl,ck,bK⟩:=ac.2 oM;have bL:∀wr,Below w.heap.size w wr->∀(a l:Nat),e[a]?=some l->wr.cell? ⟨Z,a4+a,none⟩=some (.int .i64 (l:Int)):=fun wr i a l O=>(i.cell (p:=⟨Z,a4+a,none⟩) (zAl ck aX)).trans (bK a _ (by rw [zAf,O];rfl));obtain ⟨cb,aR,c8,av,ap,a8,c5⟩:=hqq7 ac bL E b9 aE ai b1;rw [ai,bc];clear ac bK bL E b9 aE ai b1;go_enter func170,ntmps170;go_wp2_with fail;refine bU.mono ?_;clear bU;rintro r w1 ⟨W,rfl,cZ,bH,bC⟩;obtain ⟨au,aO⟩:=hqq2 bH bC;clear bH bC;go_wp2_with fail;have be:=uC (gt:=W) (L:=e) (w:=w1) 0 au.out oM;rw [c5.out] at be;refine be.mono ?_;clear be;rintro r a9 ⟨rfl,aZ⟩;obtain ⟨aQ,aq⟩:=hqq2 (au.out.below aZ au.out.lt) (aO.out.trans (aZ.mono aO.out.size));clear aZ au aO;go_wp2_with fail;have d5:b<=128:=oM;refine wp_region_any kR ?_;refine vD (fs:=[31,34]) (C:=(Below a9.heap.size a9)) [29,30,31,32,33,34,6,7] 8 (Grow) [k0 (is (.slice (some ⟨Z,a4,none⟩) b V)),k0 (is (b:Int)),k0 (fun a5 a6=>∃g,a5=.slice (some ⟨g,0,none⟩) b b/\a9.heap.size<=g/\Bk a6 g 3 (zerC b)),k0 (is (.slice (some ⟨Z,a4,none⟩) b V)),k0 (is (b:Int)),k0 (fun a5 a6=>∃g,a5=.slice (some ⟨g,0,none⟩) b b/\a9.heap.size<=g/\Bk a6 g 3 (zerC b)),kEq 31,kEq 34] rfl kR kR (bR.drew) (wW (by rfl)) (fun w bp aA a=>a.elim (fun a=>aA.trans (a.mono aA.size)) (fun a=>aA.trans (a.mono aA.size))) (by repeat' (first | exact aEf _ | exact aFd _ |(refine zAe.2 ⟨?_,?_⟩)|(intro d H;cases H))) (by repeat' (first | exact uP _ _ | exact qG _ _ | exact iN (fun _ _ _ ⟨g,aU,aW,ah⟩ a=>⟨g,aU,aW,ah.below a ah.lt⟩)|(refine zAe.2 ⟨?_,?_⟩)|(intro d H;cases H))) (by simp only [List.eraseIdx_cons_zero,List.eraseIdx_cons_succ,List.eraseIdx_nil];repeat' (first | exact uP _ _ | exact qG _ _ | exact iN (fun _ _ _ ⟨g,aU,aW,ah⟩ a=>⟨g,aU,aW,ah.below a ah.lt⟩)|(refine zAe.2 ⟨?_,?_⟩)|(intro d H;cases H))) ?_ ?_
 · refine aV ?_;refine aB (cH rfl rfl fun z _ _ _ _ _ o _ _ _ _ u=>?_) ?_
   · have ci:z (.tmp 0)=.slice (some ⟨Z,a4,none⟩) b V:=o 0 kR;clear o;go_simp;exact u _ _ (dB bR rfl rfl) rfl
   refine aB (cH rfl rfl fun _ _ _ _ _ _ o I _ _ _ u=>?_) ?_
   · have cN:_=_:=I 0 29 kR rfl;clear o;go_simp;exact u _ _ (dB bR rfl rfl) rfl
   refine aB (cH rfl rfl fun _ _ aY _ _ _ o I _ _ _ u=>?_) ?_
   · obtain ⟨a0,aC⟩:=aY;have cO:_=_:=I 1 30 kR rfl;clear o;have bn:=mS b oM;go_simp;exact u _ _ (iS (bR.alloc nL _) rfl (fun g ak=>by simp [blk?] at ak;subst ak;simp)) ⟨_,rfl,a0.size,by rw [<-aEL];exact Bk.new _ _ _⟩
   refine aB (cH rfl rfl fun z _ _ _ _ _ o _ _ _ _ u=>?_) ?_
   · have ci:z (.tmp 0)=.slice (some ⟨Z,a4,none⟩) b V:=o 0 kR;clear o;go_simp;exact u _ _ (dB bR rfl rfl) rfl
   refine aB (cH rfl rfl fun _ _ _ _ _ _ o I _ _ _ u=>?_) ?_
   · have cP:_=_:=I 3 32 kR rfl;clear o;go_simp;exact u _ _ (dB bR rfl rfl) rfl
   refine aB (cH rfl rfl fun _ _ aY _ _ _ o I _ _ _ u=>?_) ?_
   · obtain ⟨a0,aC⟩:=aY;have cQ:_=_:=I 4 33 kR rfl;clear o;have bn:=mS b oM;go_simp;exact u _ _ (iS (bR.alloc nL _) rfl (fun g ak=>by simp [blk?] at ak;subst ak;simp)) ⟨_,rfl,a0.size,by rw [<-aEL];exact Bk.new _ _ _⟩
   refine aB (cH rfl rfl fun _ _ _ _ _ _ o _ _ _ _ u=>?_) ?_
   · clear o;go_simp;exact u _ _ (dB bR rfl rfl) rfl
   refine aB (cH rfl rfl fun _ _ _ _ _ _ o _ _ _ _ u=>?_) ?_
   · clear o;go_simp;exact u _ _ (dB bR rfl rfl) rfl
   exact aH
 · intro z ao a0 aC I cj;have bA:z (.tmp 6)=z (.tmp 31):=I 6 6 rfl;have bB:z (.tmp 7)=z (.tmp 34):=I 7 7 rfl;have cx:(fun a5 a6=>∃g,a5=.slice (some ⟨g,0,none⟩) b b/\a9.heap.size<=g/\Bk a6 g 3 (zerC b)) (z (.tmp 31)) ao:=I 2 31 rfl;have cy:(fun a5 a6=>∃g,a5=.slice (some ⟨g,0,none⟩) b b/\a9.heap.size<=g/\Bk a6 g 3 (zerC b)) (z (.tmp 34)) ao:=I 5 34 rfl;simp only [zqq];clear I cj;obtain ⟨D,bh,bi,c0⟩:=cx;obtain ⟨q,U,al,bV⟩:=cy;have bM:D≠q:=fun r=>aC.2 31 (by simp) 34 (by simp) dC D (by rw [bh];rfl) (by rw [U,r];rfl);have bD:=aq.out.trans (a0.mono aq.out.size);have bI:=aQ.out.below a0 aQ.out.lt;have cW:=aq.out.size;rw [bA,bB,bh,U];generalize z (.tmp 29)=u29;generalize z (.tmp 30)=u30;generalize z (.tmp 32)=u32;generalize z (.tmp 33)=u33;obtain ⟨ax,aw,aP,af⟩:=hqq4 c0 bV bD bI;clear c0 bV bD bI aC bA bB bh U a0;go_wp2_with fail;obtain ⟨G,aa⟩:=eqx ao.heap.size;have b3:Bk (ao.alloc (.cells Tryz.zeroCells212 212)) G 212 (filC e 0):=(by rw [<-aa,<-aGj];exact Bk.new _ _ _);have X:=ax.out.alloc (.cells Tryz.zeroCells212 212);have a2:=aw.out.alloc (.cells Tryz.zeroCells212 212);have bl:=af.out.alloc (.cells Tryz.zeroCells212 212);have a1:=aP.out.alloc aP.out.size (.cells Tryz.zeroCells212 212);have cn:D < G:=(by rw [<-aa];exact ax.out.lt);have cX:q < G:=(by rw [<-aa];exact aw.out.lt);have cY:W < G:=(by rw [<-aa];exact af.out.lt);have d1:W≠D:=Bk.ne af.out ax.out dC;have d0:W≠q:=Bk.ne af.out aw.out dC;rw [aa];generalize ao.alloc (.cells Tryz.zeroCells212 212)=W1 at b3 X a2 bl a1⊢;clear ax aw aP af aQ aq aa;go_loopw [35] (fun P wr=>∃a:Nat,a<=257/\P=.int .i64 (a:Int)/\Bk wr G 212 (filC e a)/\Bk wr D 3 (zerC b)/\Bk wr q 3 (zerC b)/\Bk wr W 214 (tcells e)/\Below w.heap.size w wr) (fun P _=>257 -(intOf P).toNat)
   case atStart=>exact ⟨0,by omega,rfl,b3,X,a2,bl,a1⟩
   case round=>
    clear b3 X a2 bl a1;obtain ⟨a,b4,rfl,M,J,v,aJ,i⟩:=hrel;by_cases E:a < 257
    · have d4:((a:Int) < 257):=oM;have b0:=jI (gt:=W) (L:=e) (s:=a) (w:=wr) aJ E (by rw [av.out];omega);obtain ⟨f,a3⟩:∃f,e.countP (fun l=>decide (l < a))=f:=⟨_,rfl⟩;have bj:=aIh (L:=e) E;rw [a3] at b0 bj;obtain ⟨Y,y,x,bu,cc⟩:=hqq5 M J v aJ bj;clear M J v aJ bj a3;go_wp2_with fail;refine b0.mono ?_;clear b0;rintro r d8 ⟨rfl,aj⟩;have aG:=Y.out.below aj Y.out.lt;obtain ⟨cA,an⟩:=aIi (L:=e) (k:=a) E;have cF:=(aG.cell a).trans an;have cT:=aG.frozen a;have c6:=lhd aG;clear aG an;go_wp2_with fail;go_roundw
      case rel=>exact ⟨a+1,by omega,by go_num,by rw [<-cc.out];exact c6.out.set a _,(y.out.below aj y.out.lt).far (by simp;omega) _,(x.out.below aj x.out.lt).far (by simp;omega) _,(bu.out.below aj bu.out.lt).far (by simp;omega) _,(i.trans (aj.mono i.size)).setCell (by simp;omega) _⟩
      case measure=>simp [intOf];omega
    · have b5:a=257:=oM;subst b5;rw [aIj] at M;have bz:((257:Nat):Int)=257:=rfl;rw [bz];clear bz;obtain ⟨Y,y,x,F⟩:=hqq4 M J v i;clear M J v aJ i E b4;go_wp2_with fail;have co:w.heap.size<=q:=oM;have cq:w.heap.size<=D:=oM;have cm:w.heap.size<=G:=oM;have bS:G≠q:=oM;have bT:q≠G:=oM;go_loopw [46] (fun P wr=>∃a:Nat,a<=b/\P=.int .i64 (a:Int)/\Bk wr G 212 (firC e a)/\Bk wr D 3 (zerC b)/\Bk wr q 3 (toC e b a)/\Below w.heap.size w wr) (fun P _=>b -(intOf P).toNat)
      case atStart=>exact ⟨0,by omega,rfl,Y.out,y.out,by rw [<-aG3];exact x.out,F.out⟩
      case round=>
         clear Y y x F;obtain ⟨a,b4,rfl,M,J,v,i⟩:=hrel;by_cases E:a < b
         · obtain ⟨l,O⟩:∃l,e[a]?=some l:=⟨_,zAa (by rw [av.out];exact E)⟩;have c2:=c8.out l (zAd O);have ay:=aR.out wr i a l O;obtain ⟨f,a3⟩:=eqx (cB e l a);have d6:f<=1000:=(by have:=uT e l a;rw [a3,av.out] at this;omega);have cD:wr.cell? ⟨G,l,none⟩=some (.int .i64 (f:Int)):=(by rw [<-a3];exact (M.cell l).trans (aIf c2));have cR:=M.frozen l;have cE:wr.cell? ⟨q,a,none⟩=some (.int .i64 (((if a < a then cB e (e.getD a 0) a else 0:Nat)):Int)):=(v.cell a).trans (aEN E);have cS:=v.frozen a;have ad:=aI1 O E;have ae:=aIe O c2;rw [a3] at ad ae;have cV:IntKind.i64.wrap ((f:Int)+1)=((f+1:Nat):Int):=(by rw [IntKind.wrap_i64];omega);obtain ⟨Y,y,x,aS,aT⟩:=hqq5 M J v ad ae;clear M J v ad ae a3;go_wp2_with fail;go_roundw
           case rel=>exact ⟨a+1,by omega,by go_num,by rw [<-aT.out];exact (Y.out.far (p:=⟨q,a,none⟩) bS _).set l _,(y.out.far (p:=⟨q,a,none⟩) bM _).far (p:=⟨G,l,none⟩) (Nat.ne_of_lt cn) _,by rw [<-aS.out];exact (x.out.set a _).far (p:=⟨G,l,none⟩) bT _,(i.setCell (p:=⟨q,a,none⟩) co _).setCell (p:=⟨G,l,none⟩) cm _⟩
           case measure=>simp [intOf];omega
         · have b5:b=a:=oM;subst b5;obtain ⟨y,x,F⟩:=hqq3 J v i;have cl:=i.size;clear M J v i E b4 bS bT;have cU:((b:Int) - 1)=(N:Int):=oM;have bn:=aFU N oM;go_wp2_with fail;obtain ⟨K,ab⟩:=eqx wr.heap.size;have bm:Bk (wr.alloc (.cells (Array.replicate N (.int .u8 0)) 5)) K 5 (txtC t N):=(by rw [<-ab,<-a8.out,<-aFu];exact Bk.new _ _ _);have X:=y.out.alloc (.cells (Array.replicate N (.int .u8 0)) 5);have a2:=x.out.alloc (.cells (Array.replicate N (.int .u8 0)) 5);have a1:=F.out.alloc F.out.size (.cells (Array.replicate N (.int .u8 0)) 5);have bQ:D≠K:=Nat.ne_of_lt (by rw [<-ab];exact y.out.lt);have bP:q≠K:=Nat.ne_of_lt (by rw [<-ab];exact x.out.lt);have bO:w.heap.size<=K:=(by rw [<-ab];exact F.out.size);rw [ab];generalize wr.alloc (.cells (Array.replicate N (.int .u8 0)) 5)=W2 at bm X a2 a1⊢;clear y x F ab bn cl;have bZ:rs.length=b:=(by have:=congrArg List.length ap.out;rw [bF,av.out] at this;exact this);have b8:∀d∈rs,d<=N:=fun d H=>by have:=am.lt H;rw [aK,a8.out] at this;omega
           rw [aDE b8] at X;have bg:=aB8 am;rw [a8.out] at bg;obtain ⟨bt,cC,ag⟩:=hqq3 bZ b8 am;clear bZ b8;go_loopw [13,14] (fun cz P wr=>∃T d:Nat,T<=N/\rs[d]?=some T/\cz=.int .i64 (d:Int)/\P=.int .i64 ((T:Int) - 1)/\Bk wr D 3 (seenC rs b T)/\Bk wr q 3 (toC e b b)/\Bk wr K 5 (txtC t T)/\Below w.heap.size w wr) (fun _ P _=>(intOf P+1).toNat)
           case atStart=>exact ⟨N,0,by omega,bg,rfl,by first | rfl | go_num,X,a2,bm,a1⟩
           case round=>
            clear X a2 bm a1 bg;obtain ⟨T,d,d3,H,rfl,rfl,J,v,O,i⟩:=hrel;have aI:d < b:=(by rw [<-bt.out];exact (zAc.1 H).1);by_cases cs:T=0
            · subst cs;have b6:=aF7 ag.out H;rw [ap.out] at b6;have ay:=aR.out wr i d 0 b6;have ct:(((0:Nat):Int) - 1)=-1:=rfl;rw [ct];have bb:=aE2 (B:=w.heap.size) O bO ((aFv t 0).trans a8.out) (by unfold maxLen;omega);rw [aG0] at bb;obtain ⟨bs,F⟩:=hqq2 bb i;clear J v O i bb b6;have b7:=nM (A:=(some ⟨K,0,none⟩)) (m:=N) (B:=wr.heap.size) (t:=t) (w:=wr) N bs.out.rd nL oM;rw [bc] at b7;go_wp2_with fail;refine b7.mono ?_;clear b7;rintro r bq ⟨d7,c3,ch,bi,rfl,ba,Q⟩;have cw:=bi.unique ag.out;subst cw;rw [ap.out] at ba;have c1:=xP (A:=c3) (A2:=(some ⟨Z,a4,none⟩)) (n:=b) (B:=bq.heap.size) (L:=e) (w:=bq) ch V ba.rd (((cb.out.below (F.out.mono aX)).below (Q.mono (by have:=F.out.size;omega))).mono (by have:=F.out.size;have:=Q.size;omega)) nL oM;have ar:=lhd Q;clear Q ba bi ay;go_wp2_with fail;refine c1.mono ?_;clear c1;rintro r d9 ⟨rfl,bG⟩;have c4:=lhd bG;clear bG;go_wp2_with fail;go_ret2;have bE:=ar.out.trans (c4.out.mono ar.out.size);exact ⟨_,_,rfl,bs.out.below bE,F.out.trans (bE.mono F.out.size)⟩
            · obtain ⟨f,rfl⟩:∃f,T=f+1:=⟨T - 1,by omega⟩;have cv:(((f+1:Nat):Int) - 1)=(f:Int):=oM;rw [cv];have bY:f < t.length:=(by rw [a8.out];omega);obtain ⟨az,b2⟩:∃az,t[f]?=some az:=⟨_,zAa bY⟩;obtain ⟨bo,bX,bW⟩:=ag.out.row (p:=f) (by rw [aK,a8.out];omega);have bf:rs[bo]?=some f:=(by rw [zAa bX,bW]);obtain ⟨U,al⟩:=aHU ag.out H bf b2;rw [ap.out] at U al;have ay:=aR.out wr i d _ U;obtain ⟨aN,bk⟩:=eqx (az.toNat+1);have bJ:=uE (c:=az) (s:=aN) bk.symm wr;rw [bk] at U al ay;have ad:=aFQ (n:=b) ag.out bt.out aI H;have ae:=aGY b2;have bN:(toC e b b)[d]?=some (.int .i64 (bo:Int)):=(by rw [aEN aI,zBx aI,zAb,U];show some (Value.int .i64 ((cB e aN d:Nat):Int))=_;rw [al]);obtain ⟨cA,an⟩:=aGZ (t:=t) (j:=f+1) bY;obtain ⟨ca,aS,aT,c7,y,x,bw,ce,cd⟩:=hqq9 bf ad ae bN J v O an (aFR aI H);clear bf bW bX U al bk ad ae bN J v O an b2;go_wp2_with fail;refine bJ.mono ?_;clear bJ;rintro r bq ⟨rfl,Q⟩;have aM:=y.out.below Q y.out.lt;have bd:=x.out.below Q x.out.lt;have aL:=bw.out.below Q bw.out.lt;have cG:=(aM.cell d).trans cd.out;have cI:=aM.frozen d;have cJ:=(bd.cell d).trans c7.out;have cK:=(aL.cell f).trans ce.out;have cM:=aL.frozen f;have cp:q≠D:=fun r=>bM r.symm;have cr:K≠D:=fun r=>bQ r.symm;have d2:K≠q:=fun r=>bP r.symm;obtain ⟨cg,c9,cf,ar⟩:=hqq4 aM bd aL (i.trans (Q.mono i.size));clear aM bd aL Q i;unfold bv;go_wp2_with fail;go_roundw
              case rel=>
               refine ⟨f,bo,by omega,ca.out,rfl,?_,?_,?_,?_,?_⟩
               · first | rfl | go_num
               rw [<-aS.out];exact (cg.out.set d _).far (p:=⟨K,f,none⟩) bQ _;exact (c9.out.far (p:=⟨D,d,none⟩) cp _).far (p:=⟨K,f,none⟩) bP _;rw [<-aT.out];exact (cf.out.far (p:=⟨D,d,none⟩) cr _).set f _;exact (ar.out.setCell (p:=⟨D,d,none⟩) cq _).setCell (p:=⟨K,f,none⟩) bO _
              case measure=>simp [intOf]
end
end Go.Proofs.YtcoooelofcejbaaGreatDoor
