/- Lemmas of the walk. Conditions: each its own. -/
import Derived.Test.YtcoooelofcejbaaGreatDoorPd25
import Derived.Test.YtcoooelofcejbaaGreatDoorProg
import Derived.Test.YtcoooelofcejbaaGreatDoorShl
import Derived.Test.YtcoooelofcejbaaGreatDoorShi
set_option linter.all false
set_option maxRecDepth 100000
set_option maxHeartbeats 3000000
open Go.Proofs.Tryz
namespace Go.Proofs.YtcoooelofcejbaaGreatDoor
open Go.RowKit Go.Shelf
def rA (d:List (Nat×Nat)) (f:Nat):∃a,dZ d f a:=by
 have j:∀c,∃a,dZ (d.take c) f a:=by
  intro c
  induction c with
  | zero=>exact ⟨-1,.inl ⟨rfl,fun e g=>by simp at g⟩⟩
  | succ c i=>
    obtain ⟨a,b⟩:=i;rw [zAv];cases k:d[c]? with
    | none=>exact ⟨a,by simpa using b⟩
    | some e=>exact ⟨_,wJ b e.1 e.2⟩
 obtain ⟨a,b⟩:=j d.length;rw [List.take_length] at b;exact ⟨a,b⟩
def aH9 {g:List (Nat×Nat)} {i:Nat} {k l:Int} (m:dZ g i k) (e:dZ g i l):k=l:=by
 rcases m with ⟨rfl,b⟩|⟨j,f,rfl,b,n⟩;rcases e with ⟨rfl,_⟩|⟨d,c,rfl,a,_⟩;rfl;have:=b d c;omega;rcases e with ⟨rfl,a⟩|⟨d,c,rfl,a,o⟩;have:=a j f;omega;have:=n d c a;have:=o j f b;omega
def hQ {gp R P:Nat} {C:List (Nat×Nat)} {pos:Nat} {z:Int} {w:World} (c:PermR w gp R P C) (e:dZ C pos z):
 Calls prog 154 #[gp,(pos:Int)] w fun a b=>a=.returned (.int .i64 z)/\Below w.heap.size w b:=by
 refine (oY pos c).mono ?_;rintro a b ⟨g,rfl,f,d⟩;exact ⟨by rw [aH9 e f],d⟩
def PermE.len {o:World} {e:Nat->Prop} {g a f:Nat} {b:List (Nat×Nat)} (d:PermE o e g a f b):b.length<=a:=by
 have i:(b.map fun c=>c.1).Nodup:=by rw [List.Nodup,List.pairwise_map];exact d.2.1.imp fun {p q} k=>Nat.ne_of_lt k
 have j:=gG (n:=a) i fun r l=>by obtain ⟨c,m,rfl⟩:=zAy.1 l;exact (d.2.2 c m).1
 simpa using j
def Smp (b:List (Nat×Nat)) (a:Nat):Prop:=∃c∈b,c.2=a
def aC6 (c:Nat->Prop) (e:Nat) (d b:Int):Prop:=d < b/\(∀a:Nat,c a->d < (a:Int)->b<=(a:Int))/\(b=((e+1:Nat):Int)∨∃a:Nat,c a/\b=(a:Int))
def aDV {f:Nat->Prop} {c:Nat} {g a b:Int} (j:aC6 f c g a) (n:aC6 f c g b) (t:a<=(c:Int)+1) (u:b<=(c:Int)+1):a=b:=by
 obtain ⟨k,l,m⟩:=j;obtain ⟨o,p,q⟩:=n;have r:a<=b:=by rcases q with i |⟨e,d,rfl⟩;omega;exact l e d o
 have s:b<=a:=by rcases m with i |⟨e,d,rfl⟩;omega;exact p e d k
 omega
inductive FillTo (r N at_:Nat):(Nat->Prop)->Int->(Nat->Prop)->Prop
 | stop {S q} (h:¬q<=min (N:Int) ((at_:Int)+(r:Int))):FillTo r N at_ S q S
 | near {S q nx S'} (h:q<=min (N:Int) ((at_:Int)+(r:Int))) (hn:aC6 S N q nx) (hN:nx<=(N:Int)+1) (hr:nx - q<=(r:Int)) (k:FillTo r N at_ S nx S'):FillTo r N at_ S q S'
 | far {S S1 q nx S'} {p:Nat} (h:q<=min (N:Int) ((at_:Int)+(r:Int))) (hn:aC6 S N q nx) (hN:nx<=(N:Int)+1) (hr:¬nx - q<=(r:Int)) (hp:q+(r:Int)=(p:Int)) (hS:∀x,S1 x↔x=p∨S x) (k:FillTo r N at_ S1 (p:Int) S'):FillTo r N at_ S q S'
def FillTo.inj {q m o:Nat} {n l:Nat->Prop} {p:Int} (b:FillTo q m o n p l):∀ {c},FillTo q m o n p c->l=c:=by
 induction b with
 | stop b=>
   intro c a;cases a with
   | stop=>rfl
   | near a=>exact absurd a b
   | far a=>exact absurd a b
 | near b g f i _ j=>
   intro c a;cases a with
   | stop a=>exact absurd b a
   | near _ e d _ a=>
     rw [aDV e g d f] at a;exact j a
   | far _ e d k _ _ _=>exact absurd (by rw [aDV e g d f];exact i) k
 | far b g f i t s _ j=>
   intro c a;cases a with
   | stop a=>exact absurd b a
   | near _ e d k _=>exact absurd (by rw [aDV g e f d];exact k) i
   | far _ _ _ _ v u a=>
     obtain rfl:=Int.ofNat_inj.1 (v.symm.trans t);rw [show _=_ from funext fun r=>propext ((u r).trans (s r).symm)] at a;exact j a
def aFq (b:Nat->Prop) (c:Nat) (f:Int):Prop:=(f=-1/\∀e,b e->e < c)∨∃a:Nat,b a/\f=(a:Int)/\c<=a/\∀d,b d->c<=d->a<=d
def aJC {c:Nat->Prop} {i:Nat} {d e:Int} (a:aFq c i d) (b:aFq c i e):d=e:=by
 rcases a with ⟨rfl,a⟩|⟨j,f,rfl,l,m⟩<;> rcases b with ⟨rfl,b⟩|⟨k,g,rfl,n,o⟩;rfl;have:=a k g;omega;have:=b j f;omega;have:=m k g n;have:=o j f l;omega
def aAa (e g d:Nat) (b:Nat->Prop) (a:Nat):Prop:=∃f c,aFq (fun a=>b a∨a=0) (d - 2*e) f/\FillTo e g d (fun a=>b a∨a=0) f c/\c a
def aIg {f i e:Nat} {c b d:Nat->Prop} {g:Int} (m:∀a,b a↔c a∨a=0) (k:aFq b (e - 2*f) g) (j:FillTo f i e b g d):d=aAa f i e c:=by
 obtain rfl:b=fun a=>c a∨a=0:=funext fun a=>propext (m a);refine funext fun a=>propext ⟨fun n=>⟨g,d,k,j,n⟩,fun ⟨r,q,o,l,p⟩=>?_⟩;rw [aJC o k] at l;rw [j.inj l];exact p
structure FG (A S:Nat->Prop) (r N at_:Nat) (q:Int):Prop where
 gho:∀S',FillTo r N at_ S q S'->S'=aAa r N at_ A
 zero:S 0
 le:∀s,S s->s<=N
 at_q:q=-1∨q=((N+1:Nat):Int)∨∃s:Nat,S s/\q=(s:Int)
 fine:∀s:Nat,S s->((s:Int) < q∨at_<=s)->s+r<=N->∃s',S s'/\s < s'/\s'<=s+r
 gap2:∀s:Nat,S s->s+2*r<=N->∃s',S s'/\s < s'/\s'<=s+2*r
def aAt (c:Nat->Prop) (d e:Nat):Prop:=∀a:Nat,c a->a+d<=e->∃b,c b/\a < b/\b<=a+d
structure PreGap (S:Nat->Prop) (r N at_:Nat):Prop where
 le:∀s,S s->s<=N
 fine:∀s:Nat,(S s∨s=0)->(s+r < at_∨at_<=s)->s+r<=N->∃s',S s'/\s < s'/\s'<=s+r
 gap2:∀s:Nat,(S s∨s=0)->s+2*r<=N->∃s',S s'/\s < s'/\s'<=s+2*r
def FG.congr {d b c:Nat->Prop} {i e f:Nat} {g:Int} (k:FG d b i e f g) (j:∀a,c a↔b a):FG d c i e f g:=by
 have:c=b:=funext fun a=>propext (j a);rw [this];exact k
def wO {l i:Nat->Prop} {e u g:Nat} {t:Int} (m:PreGap l e u g) (d:∀r,i r↔l r∨r=0) (A:1<=e) (b:(t=-1/\∀a,i a->a < g - 2*e)∨∃f:Nat,i f/\t=(f:Int)/\g - 2*e<=f/\∀s,i s->g - 2*e<=s->f<=s):FG l i e u g t:=by
 refine ⟨fun z y=>aIg d b y,(d 0).2 (.inr rfl),fun a c=>?_,?_,fun a c k q=>?_,fun a c q=>?_⟩;rcases (d a).1 c with c | rfl;exact m.le a c;exact zAp _;rcases b with ⟨b,_⟩|⟨f,v,b,_⟩;exact .inl b;exact .inr (.inr ⟨f,v,b⟩)
 · obtain ⟨j,n,o,p⟩:=m.fine a ((d a).1 c) (by
    rcases k with k | k;rcases b with ⟨b,_⟩|⟨f,v,b,B,x⟩;omega;by_cases w:g - 2*e<=a;have:=x a c w;omega;exact .inl oM
    · exact .inr k) q
   exact ⟨j,(d j).2 (.inl n),o,p⟩
 obtain ⟨j,n,o,p⟩:=m.gap2 a ((d a).1 c) q;exact ⟨j,(d j).2 (.inl n),o,p⟩
def aCu {i b:Nat->Prop} {c a d:Nat} {f:Int} (e:FG i b c a d f) (m:¬f<=min (a:Int) ((d:Int)+(c:Int))):b=aAa c a d i/\aAt b c a:=⟨e.gho b (.stop m),fun g j l=>by
 refine e.fine g j ?_ l;have:=e.le g j;by_cases k:(g:Int) < f;exact .inl k
 · right;omega⟩
def oG {o i:Nat->Prop} {g e j:Nat} {c m:Int} (a:FG o i g e j c) (v:c<=min (e:Int) ((j:Int)+(g:Int))) (u:aC6 i e c m) (w:m - c<=(g:Int)):FG o i g e j m:=by
 obtain ⟨y,q,b⟩:=u
 refine ⟨fun r x=>a.gho r (.near v ⟨y,q,b⟩ (by
  rcases b with t |⟨n,l,t⟩;omega
  · have:=a.le n l;omega) w x),a.zero,a.le,.inr b,fun d k f p=>?_,a.gap2⟩
 rcases f with f | f;by_cases s:(d:Int) < c;exact a.fine d k (.inl s) p;by_cases z:(d:Int)=c;rcases b with b |⟨n,l,b⟩;omega;exact ⟨n,l,by omega,by omega⟩;have:=q d k oM;omega;exact a.fine d k (.inr f) p
def iF {y k S':Nat->Prop} {d i s:Nat} {j v:Int} (f:FG y k d i s j) (H:j<=min (i:Int) ((s:Int)+(d:Int))) (G:aC6 k i j v) (Q:1<=d) (I:¬v - j<=(d:Int)):∃p:Nat,j+(d:Int)=(p:Int)/\p<=i/\¬k p/\((∀x,S' x↔x=p∨k x)->FG y S' d i s (p:Int)):=by
 obtain ⟨L,o,B⟩:=G;have P:j<=(i:Int):=oM;have u:∃e:Nat,k e/\j=(e:Int):=by rcases f.at_q with n | n | n;exfalso;have:=o 0 f.zero oM;omega;omega;exact n
 obtain ⟨e,u,rfl⟩:=u;have O:v<=((i+1:Nat):Int):=by rcases B with n |⟨M,J,n⟩;omega;have:=f.le M J;omega
 refine ⟨e+d,by omega,by omega,fun b=>?_,fun g=>?_⟩;have:=o _ b oM;omega
 · have w:∀ {z A:Nat},(∃a,k a/\z < a/\a<=A)->∃a,S' a/\z < a/\a<=A:=fun ⟨a,F,r⟩=>⟨a,(g a).2 (.inr F),r⟩;have r:e+2*d<=i->∃a,S' a/\e+d < a/\a<=e+2*d:=fun m=>by obtain ⟨a,l,q,t⟩:=f.gap2 e u m;have:=o a l oM;exact ⟨a,(g a).2 (.inr l),by omega,t⟩
   refine ⟨fun C K=>f.gho C (.far H ⟨L,o,B⟩ oM I rfl g K),(g 0).2 (.inr f.zero),fun c b=>?_,.inr (.inr ⟨e+d,(g _).2 (.inl rfl),rfl⟩),fun c b N m=>?_,fun c b m=>?_⟩;rcases (g c).1 b with rfl | b;omega;exact f.le c b;rcases (g c).1 b with rfl | b;obtain ⟨a,l,q,t⟩:=r oM;exact ⟨a,l,q,by omega⟩;by_cases D:c=e;subst D;exact ⟨c+d,(g _).2 (.inl rfl),by omega,zAs _⟩;by_cases E:(c:Int) < (e:Int);exact w (f.fine c b (.inl E) m);have:=o c b oM;exact w (f.fine c b (.inr oM) m);rcases (g c).1 b with rfl | b;obtain ⟨a,l,q,t⟩:=r oM;exact ⟨a,l,q,by omega⟩;exact w (f.gap2 c b m)
structure TxM (w:World) (B:Nat) (own:Nat->Nat) (gl gk gp rate:Nat) (mv:Int) (S T:List Nat) (N:Nat) (rs:List Nat) (pr:List (Nat×Nat)):Prop where
 suf:IsSuf S rs
 live:LiveM w B own gl gk gp rate mv (N+1) (N+1) (aD S rs) T pr
 tal:T.Perm (aD S rs)
 right:∀x∈pr,rs[x.1]?=some x.2
def TxM.vis {m w':World} {b:Nat} {own:Nat->Nat} {f gk g k:Nat} {i:Int} {d e:List Nat} {c:Nat} {l:List Nat} {j:List (Nat×Nat)} (a:TxM m b own f gk g k i d e c l j) (n:Vis m w'):TxM w' b own f gk g k i d e c l j:=⟨a.suf,a.live.vis n,a.tal,a.right⟩
def mI (r:World) (b:Nat) (own:Nat->Nat) (k gk l p:Nat) (m:Int) (g i:List Nat) (f:Nat) (q:List Nat) (o:List (Nat×Nat)) (n:Nat) (j:Ending) (e:World):Prop:=
 j=.returned (.tuple #[])/\∃c d,TxM e b c k gk l p m g i f q d/\(∀a,Smp d a↔a=n∨Smp o a)/\LF b r e own c
def nP {w:World} {B:Nat} {own:Nat->Nat} {gl gk gp rate:Nat} {mv:Int} {t:List UInt8} {T:List Nat} {N:Nat} {rs:List Nat} {pr:List (Nat×Nat)} {pos:Nat} (j:TxM w B own gl gk gp rate mv (aF t) T N rs pr) (o:t.length=N) (J:N<=127) (a2:pos<=N) (z:∀b∈pr,b.2≠pos):
 Calls prog 219 #[gl,(pos:Int)] w (mI w B own gl gk gp rate mv (aF t) T N rs pr pos):=by
 subst o;obtain ⟨l,M,P⟩:=j.suf.row (p:=pos) (by rw [aK];omega);have s:rs[l]?=some pos:=by rw [zAa M,P]
 have a3:l < t.length+1:=by have:=j.suf.len;rw [aK] at this;omega
 have O:∀e,VB B w e->Calls prog 87 #[gl,(pos:Int)] e fun m a7=>m=.returned (.int .i64 (l:Int))/\VB B e a7:=fun e a4=>by have r:=j.vis a4.1;exact fE B gl gk gp rate e (r.live.g r.tal) r.right r.suf J s
 have K:∀b∈pr,b.1≠l:=fun b a m=>by have:=j.right b a;rw [m,s] at this;injection this with this;exact z b a this.symm
 have I:pr.length<=900:=by have:=j.live.perm.len;omega
 obtain ⟨u,v,X,W,V,U,Y⟩:=hqq7 j.live j O K z I s;obtain ⟨N,o⟩:=eqx t.length;rw [o] at J a2 a3;have D:=lhd o;clear j O K z I P s M o;rw [D.out] at u;unfold mI;go_enter func219,ntmps219;go_wp2_with fail;refine wp_region_any kR ?_;refine bQ (pJ:=(dJ)) B 8 [4,5,6,7,8,9,10,11] (fun _=>False) 100 [] [is gl,is gl,is (.pointer (some ⟨gl,1,none⟩)),is gp,is gl,is (pos:Int),is (l:Int),is (pos:Int)] _ rfl dC kR kR kR (trivial) (fun _ _ _ _ _=>trivial) (fun _ _ _ j _=>j) tA0 ?_ ?_
 · refine bH ?_;refine pH3 0 (.pointer (some gl)) ?_;refine pV3 0 4 ?_;refine pV3 1 5 ?_;refine sC3 (fun _ e d _ _ _ _ k _ _ _ n=>?_) ?_
   · replace d:VFB B (fun _=>False) w e:=fD d;have aa:_=_:=k 2 6 kR rfl;have a9:e.cell? ⟨gl,1,none⟩=some (.pointer (some gp)):=((u.out.vis (VFB.to_vb d fun _ _ c=>c).1).blk.cell 1).trans rfl;go_simp;exact n _ _ (aE vR) rfl
   refine pH3 0 (.pointer (some gl)) ?_;refine pH3 1 (.int .i64 (pos:Int)) ?_;refine sC3 (fun _ e d _ _ _ _ k _ _ _ n=>?_) ?_
   · replace d:VFB B (fun _=>False) w e:=fD d;have ab:_=_:=k 4 8 kR rfl;have ac:_=_:=k 5 9 kR rfl;go_simp;refine (X.out e (VFB.to_vb d fun _ _ c=>c)).mono ?_;rintro m a8 ⟨rfl,a5⟩;exact n _ _ (aE a5) rfl
   refine pH3 1 (.int .i64 (pos:Int)) ?_;exact aH
 · intro x C c d k ad;replace d:VFB B (fun _=>False) w C:=fD d;have a1:x (.tmp 7)=.pointer (some gp):=k 3 7 dC rfl;have Z:x (.tmp 10)=.int .i64 (l:Int):=k 6 10 dC rfl;have a0:x (.tmp 11)=.int .i64 (pos:Int):=k 7 11 dC rfl;simp only [zqq];rw [a1];rw [Z];rw [a0];clear k;change wpAny prog Region.Mode.any _ _ (1+c) (bX 8 9) _ C;rw [zCt 1 c];refine bL (f:=c) (i:=8) kR ?_;refine bY rfl rfl ?_;generalize n:wpAny prog _ _ _ c _=K5;go_simp;have A:VB B w C:=VFB.to_vb d fun _ _ c=>c;have y:=u.out.vis A.1;refine (aBE y.perm oM oM W.out V.out U.out).mono ?_;rintro m a8 ⟨rfl,⟨a6,L,E⟩,G⟩;obtain ⟨H,F⟩:=y.permOp E G;have S:=lhd H;have R:=lhd ((LF.of_vb (own:=own) A).trans F);have q:=lhd L;clear H F L E G y A;subst n;refine bO kR ?_;go_wp2_with fail;go_end0;refine ⟨rfl,_,a6,⟨v.out.suf,by rw [D.out];exact S.out,v.out.tal,fun b a=>?_⟩,fun Q=>?_,R.out⟩;rcases List.mem_cons.1 (q.out.subset a) with rfl | a;exact Y.out;exact v.out.right b a;unfold Smp;constructor;rintro ⟨b,a,rfl⟩;rcases List.mem_cons.1 (q.out.subset a) with rfl | a;exact .inl rfl;exact .inr ⟨b,a,rfl⟩;rintro (rfl |⟨b,a,rfl⟩);exact ⟨(l,Q),q.out.symm.subset (by simp),rfl⟩;exact ⟨b,q.out.symm.subset (by simp [a]),rfl⟩
def sL (p:World) (b:Nat) (own:Nat->Nat) (l gk m e:Nat) (n:Int) (i j:List Nat) (c:Nat) (o:List Nat) (g:Nat->Prop) (k:Ending) (f:World):Prop:=
 k=.returned (.tuple #[])/\∃d a,TxM f b d l gk m e n i j c o a/\Smp a 0/\(Smp a=g/\aAt (Smp a) e c)/\LF b p f own d
def tB {d:List (Nat×Nat)} {c:Nat} {j:Int} (l:dZ d c j):(j=-1/\∀i,Smp d i->i < c)∨∃a:Nat,Smp d a/\j=(a:Int)/\c<=a/\∀b,Smp d b->c<=b->a<=b:=by
 rcases l with ⟨f,g⟩|⟨a,o,f,g,m⟩;exact .inl ⟨f,fun i ⟨b,p,e⟩=>by rw [<-e];exact g b p⟩;exact .inr ⟨a.2,⟨a,o,rfl⟩,f,g,fun b ⟨q,n,e⟩ k=>by rw [<-e] at k⊢;exact m q n k⟩
def tR {e:List (Nat×Nat)} {N j:Nat} {a b:Int} (k:dZ e j b) (p:a+1=(j:Int)) (q:a<=(N:Int)):(b < 0->aC6 (Smp e) N a ((N+1:Nat):Int))/\(¬b < 0->aC6 (Smp e) N a b):=by
 rcases tB k with ⟨g,i⟩|⟨o,n,g,i,l⟩;refine ⟨fun _=>⟨by omega,fun f d m=>?_,.inl rfl⟩,fun c=>absurd oM c⟩;have:=i f d;omega;refine ⟨fun c=>absurd c oM,fun _=>⟨by omega,fun f d m=>?_,.inr ⟨o,n,g⟩⟩⟩;have:=l f d oM;omega
structure FillI (w0 wr:World) (B:Nat) (kI own:Nat->Nat) (gl gk gp rate:Nat) (mv:Int) (S T:List Nat) (N at_:Nat) (rs:List Nat) (A:Nat->Prop) (pr:List (Nat×Nat)) (q:Int):Prop where
 tx:TxM wr B own gl gk gp rate mv S T N rs pr
 fg:FG A (Smp pr) rate N at_ q
 lf:LF B w0 wr kI own
def TxM.lenc {d:World} {m:Nat} {own:Nat->Nat} {f gk o w:Nat} {u:Int} {c:List UInt8} {n:List Nat} {a:Nat} {k:List Nat} {v:List (Nat×Nat)} (i:TxM d m own f gk o w u (aF c) n a k v) (r:c.length=a) (x:a<=127):∀b:Nat,Calls prog 42 #[f] (d.drewN b) fun e l=>e=.returned (.int .i64 (a:Int))/\∃t,l=d.drewN t:=fun b=>by
 have j:=i.vis (Vis.of_below (below_drewN bR b));have s:(aD (aF c) k).length=a+1:=by rw [bF,i.suf.len,aK,r]
 exact (bM (j.live.g j.tal).lvw s oM).mono fun e l ⟨p,q⟩=>⟨p,b,q.symm⟩
def FG.ge {e f:Nat->Prop} {j b g:Nat} {a:Int} (d:FG e f j b g a):-1<=a/\a<=((b+1:Nat):Int):=by
 rcases d.at_q with c | c |⟨k,i,c⟩;omega;omega;have:=d.le k i;omega
def aDg {y:World} {l:Nat} {own:Nat->Nat} {e gk i a:Nat} {Q:Int} {J:List UInt8} {L:List Nat} {c m:Nat} {U:List Nat} {o:List (Nat×Nat)} (aq:TxM y l own e gk i a Q (aF J) L c U o) (bu:J.length=c) (ag:c<=127) (bT:m<=c) (ac:1<=a) (bV:a<=64) (bv:PreGap (Smp o) a c m):
 Calls prog 147 #[e,(m:Int)] y (sL y l own e gk i a Q (aF J) L c U (aAa a c m (Smp o))):=by
 have bs:y.cell? ⟨e,1,none⟩=some (.pointer (some i)):=(aq.live.blk.cell 1).trans rfl;have bP:IntKind.i64.wrap (2*(a:Int))=((2*a:Nat):Int):=by rw [IntKind.wrap_i64];omega
 have bQ:IntKind.i64.wrap ((m:Int) -((2*a:Nat):Int))=(m:Int) -((2*a:Nat):Int):=by rw [IntKind.wrap_i64];omega
 have bS:IntKind.i64.wrap ((m:Int)+(a:Int))=(m:Int)+(a:Int):=by rw [IntKind.wrap_i64];omega
 have bt:wrap64 ((c:Int)+1)=((c+1:Nat):Int):=by rw [dK oM oM];rfl
 obtain ⟨aJ,ad,b8⟩:=hqq3 aq bu bv;clear aq bu bv;unfold sL;go_enter func147,ntmps147;by_cases aK:∃u∈o,u.2=0
 · have aL:=rZ (gp:=i) (R:=(c+1)) (P:=(c+1)) (pr:=o) (pos:=0) (w:=y) aJ.out.live.permR aK;unfold xR at aL;have aQ:∀f,Smp o f↔Smp o f∨f=0:=fun f=>⟨.inl,fun aq=>by
    rcases aq with aq | rfl;exact aq
    · exact aK⟩
   have aO:=lhd aQ;clear aQ aK;go_wp2_with fail;refine aL.mono ?_;clear aL;rintro j ae ⟨bN,bL,rfl,ar⟩;have bU:decide ((bN:Int) < 0)=false:=(by simp);have Y:=lhd (aJ.out.vis (Vis.of_below ar));have aM:=lhd (LF.of_vb (B:=l) (own:=own) (VisK.of_below ar));clear ar bL bs aJ;go_wp2_with fail;obtain ⟨K,aA⟩:=rA o (m - 2*a);refine wp_region_any kR ?_;refine aY (S:=(Grow)) (V:=(Vs [is e,is e,is (.pointer (some ⟨e,1,none⟩)),is i,is (m:Int),is e,is e,is (.pointer (some ⟨e,2,none⟩)),is (a:Int),is (.int .i64 ((2*a:Nat):Int)),is (.int .i64 ((m:Int) -((2*a:Nat):Int))),is (.int .i64 ((m - 2*a:Nat):Int)),is (.int .i64 K),is (.int .i64 K)])) [14,15,16,17,18,19,20,21,22,23,24,25,26,4] _ rfl kR bR (fun _ _=>Grow.trans) (cK tA0) ?_ ?_
   · refine aV ?_;refine pH 0 (.pointer (some e)) ?_;refine pV 0 14 ?_;refine pV 1 15 ?_;refine pL 2 16 (fun A g=>have g:(Grow) ae A:=gD g;(((Y.out.vis (Vis.of_below g)).live.blk.cell 1).trans rfl:A.cell? ⟨e,1,none⟩=some (.pointer (some i)))) ?_;refine pH 1 (.int .i64 (m:Int)) ?_;refine pH 0 (.pointer (some e)) ?_;refine pV 5 19 ?_;refine pV 6 20 ?_;refine pL 7 21 (fun A g=>have g:(Grow) ae A:=gD g;(((Y.out.vis (Vis.of_below g)).live.blk.cell 2).trans rfl:A.cell? ⟨e,2,none⟩=some (.int .i64 (a:Int)))) ?_;refine pV 8 22 ?_;refine sC (fun _ _ _ _ _ _ r _ _ _ a1=>?_) ?_
     · have bE:_=_:=r 4 18 kR rfl;have bF:_=_:=r 9 23 kR rfl;go_simp;exact a1 _ _ bR (dV (by rw [IntKind.wrap_i64];push_cast;omega))
     refine sC (fun _ _ _ _ _ _ r _ _ _ a1=>?_) ?_
     · have bG:_=_:=r 10 24 kR rfl;go_simp;exact a1 _ _ bR (dV oM)
     refine sC (fun _ A g _ _ _ r _ _ _ a1=>?_) ?_
     · have bD:_=_:=r 3 17 kR rfl;have bH:_=_:=r 11 25 kR rfl;replace g:(Grow) ae A:=gD g;go_simp;refine (hQ (gp:=i) (R:=(c+1)) (P:=(c+1)) (C:=o) (pos:=(m - 2*a)) (z:=K) (w:=A) (Y.out.vis (Vis.of_below g)).live.permR aA).mono ?_;rintro j bO ⟨rfl,bg⟩;exact a1 _ _ bg rfl
     refine pV 12 26 ?_;exact aH
   · intro bf bq g r;replace g:(Grow) ae bq:=gD g;have be:bf (.tmp 4)=.int .i64 K:=r 13 4 rfl;simp only [zqq];rw [be];clear r;have b2:=Y.out.vis (Vis.of_below g);have aU:=aM.out.trans (LF.of_vb (B:=l) (own:=own) (VisK.of_below g));have aW:=wO b8.out aO.out ac (tB aA);have aN:=lhd (FillI.mk b2 aW aU);clear b2 aU aW aA g Y aM aO b8;go_wp2_with fail;go_loopw [4] (fun u wr=>∃(b:Int) (s:Nat->Nat) (q:List (Nat×Nat)),u=.int .i64 b/\FillI y wr l own s e gk i a Q (aF J) L c m U (Smp o) q b) (fun u _=>((c:Int)+2 - intOf u).toNat)
     case atStart=>exact ⟨K,_,_,rfl,aN.out⟩
     case round=>
        clear aN;obtain ⟨b,s,q,rfl,F⟩:=hrel;obtain ⟨bJ,bK⟩:=F.fg.ge;have ai:=F.tx.lenc ad.out ag;have aP:wr.cell? ⟨e,1,none⟩=some (.pointer (some i)):=(F.tx.live.blk.cell 1).trans rfl;have af:wr.cell? ⟨e,2,none⟩=some (.int .i64 (a:Int)):=(F.tx.live.blk.cell 2).trans rfl;have aX:=F.tx.live.blk.lt;obtain ⟨aD,bi⟩:=eqx (min (c:Int) ((m:Int)+(a:Int)));obtain ⟨k,E⟩:=hqq2 F bi;clear F;by_cases x:b<=aD
        · have bn:decide (b<=aD)=true:=zBz x;obtain ⟨aa,ay⟩:∃aa:Nat,b+1=(aa:Int):=⟨(b+1).toNat,by omega⟩;have bm:b<=(c:Int):=oM;obtain ⟨ab,aB⟩:=rA q aa;obtain ⟨b6,b7⟩:=tR (N:=c) aB ay bm;have bC:wrap64 (b+1)=(aa:Int):=(by rw [dK oM oM];exact ay);obtain ⟨bb,an,ao,bA⟩:=hqq4 aB b6 b7 ay;clear aB b6 b7;go_wp2_with fail;go_quiet ((with_reducible exact ai _))
          rename_i nq
          have b3:=k.out.tx.vis (Vis.of_below (below_drewN bR nq));have b0:=hQ (gp:=i) (R:=(c+1)) (P:=(c+1)) (C:=q) (pos:=aa) (z:=ab) (w:=(wr.drewN nq)) b3.live.permR bb.out;clear b3;go_wp2_with fail;refine b0.mono ?_;clear b0;rintro j w1 ⟨rfl,aR⟩;have H:VB l wr w1:=VisK.of_below ((below_drewN bR nq).trans aR);have O:=k.out.tx.vis H.1;have M:=k.out.lf.trans (LF.of_vb (own:=s) H);obtain ⟨W,Z⟩:=hqq2 O M;clear H O M aR ai aP af aX;by_cases b4:ab < 0
          · have b5:decide (ab < 0)=true:=zBz b4;have n:=lhd (an.out oM);have aZ:=W.out.lenc ad.out ag 0;clear an ao;go_wp2_with fail;refine aZ.mono ?_;clear aZ;rintro j X ⟨rfl,aC,rfl⟩;have b1:=W.out.vis (Vis.of_below (below_drewN bR aC));have aT:=Z.out.trans (LF.of_vb (B:=l) (own:=s) (VisK.of_below (below_drewN bR aC)));obtain ⟨p,D⟩:=hqq2 b1 aT;clear b1 aT;generalize w1.drewN aC=X at p D⊢;obtain ⟨d,ah⟩:∃d:Int,((c+1:Nat):Int)=d:=⟨_,rfl⟩;rw [ah] at n;have bI:wrap64 ((c:Int)+1)=d:=(by rw [bt];exact ah);have bk:=n.out.1;have bj:d<=((c+1:Nat):Int):=(by rcases n.out.2.2 with j |⟨aI,az,j⟩;omega;have:=k.out.fg.le aI az;omega);have bc:IntKind.i64.wrap (d - b)=d - b:=(by rw [IntKind.wrap_i64];omega);have af:X.cell? ⟨e,2,none⟩=some (.int .i64 (a:Int)):=(p.out.live.blk.cell 2).trans rfl;have bh:=p.out.live.blk.lt;by_cases a3:d - b<=(a:Int)
            · have au:decide (d - b > (a:Int))=false:=zBy oM;have av:¬(a:Int) < d - b:=oM;have a4:=oG k.out.fg (by rw [E.out];exact x) n.out a3;have ak:=lhd a4;clear a4;go_wp2_with fail;go_roundw
              case rel=>exact ⟨d,s,q,by first | rfl |(congr 1 <;> omega),p.out,ak.out,D.out⟩
              case measure=>simp [intOf];omega
            · have au:decide (d - b > (a:Int))=true:=zBz oM;have av:(a:Int) < d - b:=oM;obtain ⟨f,a6,ax,G,_⟩:=iF (S':=Smp q) k.out.fg (by rw [E.out];exact x) n.out ac a3;have bd:IntKind.i64.wrap (b+(a:Int))=(f:Int):=(by rw [IntKind.wrap_i64];omega);have v:=nP (w:=X) (B:=l) (own:=s) (gl:=e) (gk:=gk) (gp:=i) (rate:=a) (mv:=Q) (t:=J) (T:=L) (N:=c) (rs:=U) (pr:=q) (pos:=f) p.out ad.out ag ax (fun u a8 j=>G ⟨u,a8,j⟩);unfold mI at v;obtain ⟨a0,ba⟩:=hqq2 a6 G;clear a6 G;go_wp2_with fail;refine v.mono ?_;clear v;rintro j bp ⟨rfl,aE,I,a9,a7,a2⟩;have a5:FG (Smp o) (Smp I) a c m (f:Int):=(by obtain ⟨aG,bl,_,_,aw⟩:=iF (S':=Smp I) k.out.fg (by rw [E.out];exact x) n.out ac oM;have:aG=f:=(by have:=a0.out;omega);subst this;exact aw a7);obtain ⟨al,ap,aj⟩:=hqq3 a5 a9 (D.out.trans a2);have am:=lhd (show b < (f:Int) by have:=a0.out;omega);clear a5 a9 a7 a2;go_wp2_with fail;go_roundw
              case rel=>exact ⟨(f:Int),aE,I,rfl,ap.out,al.out,aj.out⟩
              case measure=>simp [intOf];have:=am.out;omega
          · have b5:decide (ab < 0)=false:=zBy b4;have n:=lhd (ao.out oM);clear an ao;obtain ⟨d,ah⟩:∃d:Int,ab=d:=⟨_,rfl⟩;rw [ah] at n b5⊢;have p:=W;have D:=Z;clear W Z;generalize w1=X at p D⊢;have bk:=n.out.1;have bj:d<=((c+1:Nat):Int):=(by rcases n.out.2.2 with j |⟨aI,az,j⟩;omega;have:=k.out.fg.le aI az;omega);have bc:IntKind.i64.wrap (d - b)=d - b:=(by rw [IntKind.wrap_i64];omega);have af:X.cell? ⟨e,2,none⟩=some (.int .i64 (a:Int)):=(p.out.live.blk.cell 2).trans rfl;have bh:=p.out.live.blk.lt;by_cases a3:d - b<=(a:Int)
            · have au:decide (d - b > (a:Int))=false:=zBy oM;have av:¬(a:Int) < d - b:=oM;have a4:=oG k.out.fg (by rw [E.out];exact x) n.out a3;have ak:=lhd a4;clear a4;go_wp2_with fail;go_roundw
              case rel=>exact ⟨d,s,q,by first | rfl |(congr 1 <;> omega),p.out,ak.out,D.out⟩
              case measure=>simp [intOf];omega
            · have au:decide (d - b > (a:Int))=true:=zBz oM;have av:(a:Int) < d - b:=oM;obtain ⟨f,a6,ax,G,_⟩:=iF (S':=Smp q) k.out.fg (by rw [E.out];exact x) n.out ac a3;have bd:IntKind.i64.wrap (b+(a:Int))=(f:Int):=(by rw [IntKind.wrap_i64];omega);have v:=nP (w:=X) (B:=l) (own:=s) (gl:=e) (gk:=gk) (gp:=i) (rate:=a) (mv:=Q) (t:=J) (T:=L) (N:=c) (rs:=U) (pr:=q) (pos:=f) p.out ad.out ag ax (fun u a8 j=>G ⟨u,a8,j⟩);unfold mI at v;obtain ⟨a0,ba⟩:=hqq2 a6 G;clear a6 G;go_wp2_with fail;refine v.mono ?_;clear v;rintro j bp ⟨rfl,aE,I,a9,a7,a2⟩;have a5:FG (Smp o) (Smp I) a c m (f:Int):=(by obtain ⟨aG,bl,_,_,aw⟩:=iF (S':=Smp I) k.out.fg (by rw [E.out];exact x) n.out ac oM;have:aG=f:=(by have:=a0.out;omega);subst this;exact aw a7);obtain ⟨al,ap,aj⟩:=hqq3 a5 a9 (D.out.trans a2);have am:=lhd (show b < (f:Int) by have:=a0.out;omega);clear a5 a9 a7 a2;go_wp2_with fail;go_roundw
              case rel=>exact ⟨(f:Int),aE,I,rfl,ap.out,al.out,aj.out⟩
              case measure=>simp [intOf];have:=am.out;omega
        · have bn:decide (b<=aD)=false:=zBy x;have aS:=aCu k.out.fg (by rw [E.out];exact x);have b9:=lhd aS;clear aS;go_wp2_with fail;go_quiet ((with_reducible exact ai _))
          rename_i nq
          have H:VB l wr (wr.drewN nq):=VisK.of_below (below_drewN bR nq);have O:=k.out.tx.vis H.1;have M:=k.out.lf.trans (LF.of_vb (own:=s) H);obtain ⟨W,Z⟩:=hqq2 O M;clear H O M ai aP af aX;go_wp2_with fail;go_end0;exact ⟨rfl,s,q,W.out,k.out.fg.zero,b9.out,Z.out⟩
 · have aL:=yT (gp:=i) (R:=(c+1)) (P:=(c+1)) (pr:=o) (w:=y) 0 aJ.out.live.permR (fun u a8 j=>aK ⟨u,a8,j⟩);have bz:=lhd aK;clear aK;go_wp2_with fail;refine aL.mono ?_;clear aL;rintro j bB ⟨rfl,ar⟩;have bx:=aJ.out.vis (Vis.of_below ar);have v:=nP (w:=bB) (B:=l) (own:=own) (gl:=e) (gk:=gk) (gp:=i) (rate:=a) (mv:=Q) (t:=J) (T:=L) (N:=c) (rs:=U) (pr:=o) (pos:=0) bx ad.out ag (zAp _) (fun u a8 j=>bz.out ⟨u,a8,j⟩);unfold mI at v;have br:=lhd (LF.of_vb (B:=l) (own:=own) (VisK.of_below ar));clear ar bx bs aJ;go_wp2_with fail;refine v.mono ?_;clear v;rintro j ae ⟨rfl,bM,bo,O,bw,M⟩;obtain ⟨Y,aM⟩:=hqq2 O (br.out.trans M);have aQ:∀f,Smp bo f↔Smp o f∨f=0:=fun f=>(bw f).trans Or.comm;have aO:=lhd aQ;clear aQ O bw M br;go_wp2_with fail;obtain ⟨K,aA⟩:=rA bo (m - 2*a);refine wp_region_any kR ?_;refine aY (S:=(Grow)) (V:=(Vs [is e,is e,is (.pointer (some ⟨e,1,none⟩)),is i,is (m:Int),is e,is e,is (.pointer (some ⟨e,2,none⟩)),is (a:Int),is (.int .i64 ((2*a:Nat):Int)),is (.int .i64 ((m:Int) -((2*a:Nat):Int))),is (.int .i64 ((m - 2*a:Nat):Int)),is (.int .i64 K),is (.int .i64 K)])) [14,15,16,17,18,19,20,21,22,23,24,25,26,4] _ rfl kR bR (fun _ _=>Grow.trans) (cK tA0) ?_ ?_
   · refine aV ?_;refine pH 0 (.pointer (some e)) ?_;refine pV 0 14 ?_;refine pV 1 15 ?_;refine pL 2 16 (fun A g=>have g:(Grow) ae A:=gD g;(((Y.out.vis (Vis.of_below g)).live.blk.cell 1).trans rfl:A.cell? ⟨e,1,none⟩=some (.pointer (some i)))) ?_;refine pH 1 (.int .i64 (m:Int)) ?_;refine pH 0 (.pointer (some e)) ?_;refine pV 5 19 ?_;refine pV 6 20 ?_;refine pL 7 21 (fun A g=>have g:(Grow) ae A:=gD g;(((Y.out.vis (Vis.of_below g)).live.blk.cell 2).trans rfl:A.cell? ⟨e,2,none⟩=some (.int .i64 (a:Int)))) ?_;refine pV 8 22 ?_;refine sC (fun _ _ _ _ _ _ r _ _ _ a1=>?_) ?_
     · have bE:_=_:=r 4 18 kR rfl;have bF:_=_:=r 9 23 kR rfl;go_simp;exact a1 _ _ bR (dV (by rw [IntKind.wrap_i64];push_cast;omega))
     refine sC (fun _ _ _ _ _ _ r _ _ _ a1=>?_) ?_
     · have bG:_=_:=r 10 24 kR rfl;go_simp;exact a1 _ _ bR (dV oM)
     refine sC (fun _ A g _ _ _ r _ _ _ a1=>?_) ?_
     · have bD:_=_:=r 3 17 kR rfl;have bH:_=_:=r 11 25 kR rfl;replace g:(Grow) ae A:=gD g;go_simp;refine (hQ (gp:=i) (R:=(c+1)) (P:=(c+1)) (C:=bo) (pos:=(m - 2*a)) (z:=K) (w:=A) (Y.out.vis (Vis.of_below g)).live.permR aA).mono ?_;rintro j bO ⟨rfl,bg⟩;exact a1 _ _ bg rfl
     refine pV 12 26 ?_;exact aH
   · intro bf bq g r;replace g:(Grow) ae bq:=gD g;have be:bf (.tmp 4)=.int .i64 K:=r 13 4 rfl;simp only [zqq];rw [be];clear r;have b2:=Y.out.vis (Vis.of_below g);have aU:=aM.out.trans (LF.of_vb (B:=l) (own:=bM) (VisK.of_below g));have aW:=wO b8.out aO.out ac (tB aA);have aN:=lhd (FillI.mk b2 aW aU);clear b2 aU aW aA g Y aM aO b8;go_wp2_with fail;go_loopw [4] (fun u wr=>∃(b:Int) (s:Nat->Nat) (q:List (Nat×Nat)),u=.int .i64 b/\FillI y wr l own s e gk i a Q (aF J) L c m U (Smp o) q b) (fun u _=>((c:Int)+2 - intOf u).toNat)
     case atStart=>exact ⟨K,_,_,rfl,aN.out⟩
     case round=>
        clear aN;obtain ⟨b,s,q,rfl,F⟩:=hrel;obtain ⟨bJ,bK⟩:=F.fg.ge;have ai:=F.tx.lenc ad.out ag;have aP:wr.cell? ⟨e,1,none⟩=some (.pointer (some i)):=(F.tx.live.blk.cell 1).trans rfl;have af:wr.cell? ⟨e,2,none⟩=some (.int .i64 (a:Int)):=(F.tx.live.blk.cell 2).trans rfl;have aX:=F.tx.live.blk.lt;obtain ⟨aD,bi⟩:=eqx (min (c:Int) ((m:Int)+(a:Int)));obtain ⟨k,E⟩:=hqq2 F bi;clear F;by_cases x:b<=aD
        · have bn:decide (b<=aD)=true:=zBz x;obtain ⟨aa,ay⟩:∃aa:Nat,b+1=(aa:Int):=⟨(b+1).toNat,by omega⟩;have bm:b<=(c:Int):=oM;obtain ⟨ab,aB⟩:=rA q aa;obtain ⟨b6,b7⟩:=tR (N:=c) aB ay bm;have bC:wrap64 (b+1)=(aa:Int):=(by rw [dK oM oM];exact ay);obtain ⟨bb,an,ao,bA⟩:=hqq4 aB b6 b7 ay;clear aB b6 b7;go_wp2_with fail;go_quiet ((with_reducible exact ai _))
          rename_i nq
          have b3:=k.out.tx.vis (Vis.of_below (below_drewN bR nq));have b0:=hQ (gp:=i) (R:=(c+1)) (P:=(c+1)) (C:=q) (pos:=aa) (z:=ab) (w:=(wr.drewN nq)) b3.live.permR bb.out;clear b3;go_wp2_with fail;refine b0.mono ?_;clear b0;rintro j w1 ⟨rfl,aR⟩;have H:VB l wr w1:=VisK.of_below ((below_drewN bR nq).trans aR);have O:=k.out.tx.vis H.1;have M:=k.out.lf.trans (LF.of_vb (own:=s) H);obtain ⟨W,Z⟩:=hqq2 O M;clear H O M aR ai aP af aX;by_cases b4:ab < 0
          · have b5:decide (ab < 0)=true:=zBz b4;have n:=lhd (an.out oM);have aZ:=W.out.lenc ad.out ag 0;clear an ao;go_wp2_with fail;refine aZ.mono ?_;clear aZ;rintro j X ⟨rfl,aC,rfl⟩;have b1:=W.out.vis (Vis.of_below (below_drewN bR aC));have aT:=Z.out.trans (LF.of_vb (B:=l) (own:=s) (VisK.of_below (below_drewN bR aC)));obtain ⟨p,D⟩:=hqq2 b1 aT;clear b1 aT;generalize w1.drewN aC=X at p D⊢;obtain ⟨d,ah⟩:∃d:Int,((c+1:Nat):Int)=d:=⟨_,rfl⟩;rw [ah] at n;have bI:wrap64 ((c:Int)+1)=d:=(by rw [bt];exact ah);have bk:=n.out.1;have bj:d<=((c+1:Nat):Int):=(by rcases n.out.2.2 with j |⟨aI,az,j⟩;omega;have:=k.out.fg.le aI az;omega);have bc:IntKind.i64.wrap (d - b)=d - b:=(by rw [IntKind.wrap_i64];omega);have af:X.cell? ⟨e,2,none⟩=some (.int .i64 (a:Int)):=(p.out.live.blk.cell 2).trans rfl;have bh:=p.out.live.blk.lt;by_cases a3:d - b<=(a:Int)
            · have au:decide (d - b > (a:Int))=false:=zBy oM;have av:¬(a:Int) < d - b:=oM;have a4:=oG k.out.fg (by rw [E.out];exact x) n.out a3;have ak:=lhd a4;clear a4;go_wp2_with fail;go_roundw
              case rel=>exact ⟨d,s,q,by first | rfl |(congr 1 <;> omega),p.out,ak.out,D.out⟩
              case measure=>simp [intOf];omega
            · have au:decide (d - b > (a:Int))=true:=zBz oM;have av:(a:Int) < d - b:=oM;obtain ⟨f,a6,ax,G,_⟩:=iF (S':=Smp q) k.out.fg (by rw [E.out];exact x) n.out ac a3;have bd:IntKind.i64.wrap (b+(a:Int))=(f:Int):=(by rw [IntKind.wrap_i64];omega);have v:=nP (w:=X) (B:=l) (own:=s) (gl:=e) (gk:=gk) (gp:=i) (rate:=a) (mv:=Q) (t:=J) (T:=L) (N:=c) (rs:=U) (pr:=q) (pos:=f) p.out ad.out ag ax (fun u a8 j=>G ⟨u,a8,j⟩);unfold mI at v;obtain ⟨a0,ba⟩:=hqq2 a6 G;clear a6 G;go_wp2_with fail;refine v.mono ?_;clear v;rintro j bp ⟨rfl,aE,I,a9,a7,a2⟩;have a5:FG (Smp o) (Smp I) a c m (f:Int):=(by obtain ⟨aG,bl,_,_,aw⟩:=iF (S':=Smp I) k.out.fg (by rw [E.out];exact x) n.out ac oM;have:aG=f:=(by have:=a0.out;omega);subst this;exact aw a7);obtain ⟨al,ap,aj⟩:=hqq3 a5 a9 (D.out.trans a2);have am:=lhd (show b < (f:Int) by have:=a0.out;omega);clear a5 a9 a7 a2;go_wp2_with fail;go_roundw
              case rel=>exact ⟨(f:Int),aE,I,rfl,ap.out,al.out,aj.out⟩
              case measure=>simp [intOf];have:=am.out;omega
          · have b5:decide (ab < 0)=false:=zBy b4;have n:=lhd (ao.out oM);clear an ao;obtain ⟨d,ah⟩:∃d:Int,ab=d:=⟨_,rfl⟩;rw [ah] at n b5⊢;have p:=W;have D:=Z;clear W Z;generalize w1=X at p D⊢;have bk:=n.out.1;have bj:d<=((c+1:Nat):Int):=(by rcases n.out.2.2 with j |⟨aI,az,j⟩;omega;have:=k.out.fg.le aI az;omega);have bc:IntKind.i64.wrap (d - b)=d - b:=(by rw [IntKind.wrap_i64];omega);have af:X.cell? ⟨e,2,none⟩=some (.int .i64 (a:Int)):=(p.out.live.blk.cell 2).trans rfl;have bh:=p.out.live.blk.lt;by_cases a3:d - b<=(a:Int)
            · have au:decide (d - b > (a:Int))=false:=zBy oM;have av:¬(a:Int) < d - b:=oM;have a4:=oG k.out.fg (by rw [E.out];exact x) n.out a3;have ak:=lhd a4;clear a4;go_wp2_with fail;go_roundw
              case rel=>exact ⟨d,s,q,by first | rfl |(congr 1 <;> omega),p.out,ak.out,D.out⟩
              case measure=>simp [intOf];omega
            · have au:decide (d - b > (a:Int))=true:=zBz oM;have av:(a:Int) < d - b:=oM;obtain ⟨f,a6,ax,G,_⟩:=iF (S':=Smp q) k.out.fg (by rw [E.out];exact x) n.out ac a3;have bd:IntKind.i64.wrap (b+(a:Int))=(f:Int):=(by rw [IntKind.wrap_i64];omega);have v:=nP (w:=X) (B:=l) (own:=s) (gl:=e) (gk:=gk) (gp:=i) (rate:=a) (mv:=Q) (t:=J) (T:=L) (N:=c) (rs:=U) (pr:=q) (pos:=f) p.out ad.out ag ax (fun u a8 j=>G ⟨u,a8,j⟩);unfold mI at v;obtain ⟨a0,ba⟩:=hqq2 a6 G;clear a6 G;go_wp2_with fail;refine v.mono ?_;clear v;rintro j bp ⟨rfl,aE,I,a9,a7,a2⟩;have a5:FG (Smp o) (Smp I) a c m (f:Int):=(by obtain ⟨aG,bl,_,_,aw⟩:=iF (S':=Smp I) k.out.fg (by rw [E.out];exact x) n.out ac oM;have:aG=f:=(by have:=a0.out;omega);subst this;exact aw a7);obtain ⟨al,ap,aj⟩:=hqq3 a5 a9 (D.out.trans a2);have am:=lhd (show b < (f:Int) by have:=a0.out;omega);clear a5 a9 a7 a2;go_wp2_with fail;go_roundw
              case rel=>exact ⟨(f:Int),aE,I,rfl,ap.out,al.out,aj.out⟩
              case measure=>simp [intOf];have:=am.out;omega
        · have bn:decide (b<=aD)=false:=zBy x;have aS:=aCu k.out.fg (by rw [E.out];exact x);have b9:=lhd aS;clear aS;go_wp2_with fail;go_quiet ((with_reducible exact ai _))
          rename_i nq
          have H:VB l wr (wr.drewN nq):=VisK.of_below (below_drewN bR nq);have O:=k.out.tx.vis H.1;have M:=k.out.lf.trans (LF.of_vb (own:=s) H);obtain ⟨W,Z⟩:=hqq2 O M;clear H O M ai aP af aX;go_wp2_with fail;go_end0;exact ⟨rfl,s,q,W.out,k.out.fg.zero,b9.out,Z.out⟩
end Go.Proofs.YtcoooelofcejbaaGreatDoor
