/- Lemmas of the walk. Conditions: each its own. -/
import Derived.Test.YtknjfpcdhdmghaaGreatDoorPt28
set_option linter.all false
set_option maxRecDepth 100000
set_option maxHeartbeats 3000000
open Go.Proofs.Tryz
namespace Go.Proofs.YtknjfpcdhdmghaaGreatDoor
section
open Go.RowKit Go.Shelf
def uS (d f):∃a,eZ d f a:=by
 have j:∀c,∃a,eZ (d.take c) f a:=by
  intro c
  induction c with
  | zero=>exact ⟨-1,.inl ⟨rfl,λe g=>by simp at g⟩⟩
  | succ c i=>
   obtain ⟨a,b⟩:=i;rw [zAv];cases k:d[c]? with
   | none=>exact ⟨a,by simpa using b⟩
   | some e=>exact ⟨_,aAs b e.1 e.2⟩
 obtain ⟨a,b⟩:=j d.length;rw [zFf] at b;exact ⟨a,b⟩
def aLp {g i k l} (m:eZ g i k) (e:eZ g i l):k=l:=by
 rcases m with ⟨rfl,b⟩|⟨j,f,rfl,b,n⟩;rcases e with ⟨rfl,_⟩|⟨d,c,rfl,a,_⟩;rfl;have:=b d c;omega;rcases e with ⟨rfl,a⟩|⟨d,c,rfl,a,o⟩;have:=a j f;omega;have:=n d c a;have:=o j f b;omega
def jR {gp R P C pos z w} (c:PermR w gp R P C) (e:eZ C pos z):
 Calls prog 124 #[gp,(pos:Int)] w λa b=>a=.returned (.int .i64 z)/\Below w.heap.size w b:=by
 refine (sV pos c).mono ?_;rintro a b ⟨g,rfl,f,d⟩;exact ⟨by rw [aLp e f],d⟩
def PermE.len {o e g a f b} (d:PermE o e g a f b):b.length<=a:=by
 have i:(b.map λc=>c.1).Nodup:=by rw [List.Nodup,zDm];exact d.2.1.imp λ{p q} k=>zGh k
 have j:=iS (n:=a) i λs l=>by obtain ⟨c,m,rfl⟩:=zAy.1 l;exact (d.2.2 c m).1
 simpa using j
def Smp (b:List (Nat×Nat)) (a:Nat):Prop:=∃c∈b,c.2=a
structure FG (S:Nat->Prop) (r N at_:Nat) (q:Int):Prop where
 zero:S 0
 le:∀s,S s->s<=N
 df:q=-1∨q=((N+1:Nat):Int)∨∃s:Nat,S s/\q=(s:Int)
 bp:∀s:Nat,S s->((s:Int) < q∨at_<=s)->s+r<=N->∃s',S s'/\s < s'/\s'<=s+r
 cc:∀s:Nat,S s->s+2*r<=N->∃s',S s'/\s < s'/\s'<=s+2*r
def sX (S:Nat->Prop) (r N:Nat):Prop:=∀a:Nat,S a->a+r<=N->∃b,S b/\a < b/\b<=a+r
structure PreGap (S:Nat->Prop) (r N at_:Nat):Prop where
 le:∀s,S s->s<=N
 bp:∀s:Nat,(S s∨s=0)->(s+r < at_∨at_<=s)->s+r<=N->∃s',S s'/\s < s'/\s'<=s+r
 cc:∀s:Nat,(S s∨s=0)->s+2*r<=N->∃s',S s'/\s < s'/\s'<=s+2*r
def FG.congr {S S' r N at_ b} (d:FG S r N at_ b) (c:∀a,S' a↔S a):FG S' r N at_ b:=by
 have:S'=S:=funext λa=>propext (c a);rw [this];exact d
def aAB {S f r N at_ q} (j:PreGap S r N at_) (e:∀o,f o↔S o∨o=0) (v:1<=r) (c:(q=-1/\∀a,f a->a < at_ - 2*r)∨∃d:Nat,f d/\q=(d:Int)/\at_ - 2*r<=d/\∀p,f p->at_ - 2*r<=p->d<=p):FG f r N at_ q:=by
 refine ⟨(e 0).2 (.inr rfl),λa b=>?_,?_,λa b i n=>?_,λa b n=>?_⟩;rcases (e a).1 b with b | rfl;exact j.le a b;exact zAp _;rcases c with ⟨c,_⟩|⟨d,s,c,_⟩;exact .inl c;exact .inr (.inr ⟨d,s,c⟩)
 .obtain ⟨g,k,l,m⟩:=j.bp a ((e a).1 b) (by
   rcases i with i | i;rcases c with ⟨c,_⟩|⟨d,s,c,w,u⟩;omega;by_cases t:at_ - 2*r<=a;have:=u a b t;omega;exact .inl oM
   .exact .inr i) n
  exact ⟨g,(e g).2 (.inl k),l,m⟩
 obtain ⟨g,k,l,m⟩:=j.cc a ((e a).1 b) n;exact ⟨g,(e g).2 (.inl k),l,m⟩
def aEV {S r N at_ a} (c:FG S r N at_ a) (g:¬a<=min (N:Int) ((at_:Int)+r)):sX S r N:=λb d f=>by
 refine c.bp b d ?_ f;have:=c.le b d;by_cases e:(b:Int) < a;exact .inl e;right;omega
def aNA (S:Nat->Prop) (N:Nat) (c b:Int):Prop:=c < b/\(∀a:Nat,S a->c < (a:Int)->b<=(a:Int))/\(b=((N+1:Nat):Int)∨∃a:Nat,S a/\b=(a:Int))
def rQ {S r N at_ b g} (a:FG S r N at_ b) (k:aNA S N b g) (p:g - b<=(r:Int)):FG S r N at_ g:=by
 obtain ⟨q,m,e⟩:=k;refine ⟨a.zero,a.le,.inr e,λc f d i=>?_,a.cc⟩;rcases d with d | d;by_cases j:(c:Int) < b;exact a.bp c f (.inl j) i;by_cases o:(c:Int)=b;rcases e with e |⟨n,l,e⟩;omega;exact ⟨n,l,by omega,by omega⟩;have:=m c f oM;omega;exact a.bp c f (.inr d) i
def jY {S S' r N at_ j q} (e:FG S r N at_ j) (z:aNA S N j q) (H:j<=(N:Int)) (J:1<=r) (I:¬q - j<=(r:Int)):∃l:Nat,j+(r:Int)=l/\l<=N/\¬S l/\((∀t,S' t↔t=l∨S t)->FG S' r N at_ (l:Int)):=by
 obtain ⟨K,o,D⟩:=z;have A:∃d:Nat,S d/\j=d:=by rcases e.df with k | k | k;exfalso;have:=o 0 e.zero oM;omega;omega;exact k
 obtain ⟨d,B,rfl⟩:=A;have G:q<=((N+1:Nat):Int):=by rcases D with k |⟨E,C,k⟩;omega;have:=e.le E C;omega
 refine ⟨d+r,by omega,by omega,λb=>?_,λf=>?_⟩;have:=o _ b oM;omega
 .have s:∀ {u v:Nat},(∃a,S a/\u < a/\a<=v)->∃a,S' a/\u < a/\a<=v:=λ⟨a,y,n⟩=>⟨a,(f a).2 (.inr y),n⟩;have n:d+2*r<=N->∃a,S' a/\d+r < a/\a<=d+2*r:=λi=>by obtain ⟨a,g,m,p⟩:=e.cc d B i;have:=o a g oM;exact ⟨a,(f a).2 (.inr g),by omega,p⟩
  refine ⟨(f 0).2 (.inr e.zero),λc b=>?_,.inr (.inr ⟨d+r,(f _).2 (.inl rfl),rfl⟩),λc b F i=>?_,λc b i=>?_⟩;rcases (f c).1 b with rfl | b;omega;exact e.le c b;rcases (f c).1 b with rfl | b;obtain ⟨a,g,m,p⟩:=n oM;exact ⟨a,g,m,by omega⟩;by_cases w:c=d;subst w;exact ⟨c+r,(f _).2 (.inl rfl),by omega,zAs _⟩;by_cases x:(c:Int) < d;exact s (e.bp c b (.inl x) i);have:=o c b oM;exact s (e.bp c b (.inr oM) i);rcases (f c).1 b with rfl | b;obtain ⟨a,g,m,p⟩:=n oM;exact ⟨a,g,m,by omega⟩;exact s (e.cc c b i)
structure TxM (w:World) (B:Nat) (own:Nat->Nat) (gl gk gp rate:Nat) (mv:Int) (S T:List Nat) (N:Nat) (rs:List Nat) (pr:List (Nat×Nat)):Prop where
 aa:IsSuf S rs
 live:LiveM w B own gl gk gp rate mv (N+1) (N+1) (aH S rs) T pr
 ag:T.Perm (aH S rs)
 right:∀x∈pr,rs[x.1]?=some x.2
def TxM.b {k w' b own d gk e i f S c N j g} (a:TxM k b own d gk e i f S c N j g) (l:Vis k w'):TxM w' b own d gk e i f S c N j g:=⟨a.aa,a.live.b l,a.ag,a.right⟩
def oZ (p:World) (b:Nat) (own:Nat->Nat) (i gk j n:Nat) (k:Int) (S f:List Nat) (N:Nat) (o:List Nat) (m:List (Nat×Nat)) (l:Nat) (g:Ending) (e:World):Prop:=
 g=.returned (.tuple #[])/\∃c d,TxM e b c i gk j n k S f N o d/\(∀a,Smp d a↔a=l∨Smp m a)/\LF b p e own c
def qU {w B own gl gk gp rate mv t T N rs pr pos} (j:TxM w B own gl gk gp rate mv (aG t) T N rs pr) (n:t.length=N) (F:N<=895) (U:pos<=N) (G:∀b∈pr,b.2≠pos):
 Calls prog 174 #[gl,(pos:Int)] w (oZ w B own gl gk gp rate mv (aG t) T N rs pr pos):=by
 subst n;obtain ⟨r,H,I⟩:=j.aa.row (p:=pos) (by rw [aO];omega);have y:rs[r]?=some pos:=by rw [zAa H,I]
 have V:r < t.length+1:=by have:=j.aa.len;rw [aO] at this;omega
 have W:∀e,VB B w e->Calls prog 66 #[gl,(pos:Int)] e λl a0=>l=.returned (.int .i64 r)/\VB B e a0:=λe X=>by have o:=j.b X.1;exact gP B gl gk gp rate e (o.live.g o.ag) o.right o.aa F y
 have R:∀b∈pr,b.1≠r:=λb a l=>by have:=j.right b a;rw [l,y] at this;injection this with this;exact G b a this.symm
 have Q:pr.length<=900:=zj j.live.perm.len
 have s:=j.live;have u:=j;obtain ⟨N,n⟩:=eqx t.length;rw [n] at F U V;clear j I H;rw [n] at s;unfold oZ;go_enter func174,ntmps174;go_wp2_with fail;refine wp_region_any kR<|cC (pJ:=(cO)) B 8 [4,5,6,7,8,9,10,11] (λ_=>False) 100 [] [is gl,is gl,is (.pointer (some ⟨gl,1,none⟩)),is gp,is gl,is (pos:Int),is (r:Int),is (pos:Int)] _ rfl dC kR kR kR (trivial) (λ_ _ _ _ _=>trivial) (λ_ _ _ j _=>j) tA0 ?_ ?_
 .refine bB<|pH3 0 (.pointer (some gl))<|pV3 0 4<|pV3 1 5<|sC3 (λ_ e d _ _ _ _ k _ _ _ m=>?_) ?_
  .replace d:VFB B (λ_=>False) w e:=fD d;have a3:_=_:=k 2 6 kR rfl;have a2:e.cell? ⟨gl,1,none⟩=some (.pointer (some gp)):=((s.b (VFB.y d λ_ _ c=>c).1).a.cell 1).trans rfl;go_simp;exact m _ _ (aI vR) rfl
  refine pH3 0 (.pointer (some gl))<|pH3 1 (.int .i64 pos)<|sC3 (λ_ e d _ _ _ _ k _ _ _ m=>?_) ?_
  .replace d:VFB B (λ_=>False) w e:=fD d;have a4:_=_:=k 4 8 kR rfl;have a5:_=_:=k 5 9 kR rfl;go_simp;refine (W e (VFB.y d λ_ _ c=>c)).mono ?_;rintro l a1 ⟨rfl,Y⟩;exact m _ _ (aI Y) rfl
  refine pH3 1 (.int .i64 pos) ?_;exact aB
 .intro v A c d k a6;replace d:VFB B (λ_=>False) w A:=fD d;have O:v (.tmp 7)=.pointer (some gp):=k 3 7 dC rfl;have L:v (.tmp 10)=.int .i64 r:=k 6 10 dC rfl;have M:v (.tmp 11)=.int .i64 pos:=k 7 11 dC rfl;simp only [zqq];rw [O];rw [L];rw [M];clear k;change wpAny prog Region.Mode.any _ _ (1+c) (bT 8 9) _ A;rw [zCt 1 c];refine aY (f:=c) (i:=8) kR ?_;refine bJ rfl rfl ?_;generalize m:wpAny prog _ _ _ c _=K5;go_simp;have z:VB B w A:=VFB.y d λ_ _ c=>c;have x:=s.b z.1;refine (aDX x.perm oM oM R G Q).mono ?_;rintro l a1 ⟨rfl,⟨Z,q,C⟩,E⟩;obtain ⟨P,D⟩:=x.S C E;have K:=((LF.i (own:=own) z).trans D);clear D C E x z;subst m;refine bG kR ?_;go_wp2_with fail;go_end0;refine ⟨rfl,_,Z,⟨u.aa,by rw [n];exact P,u.ag,λb a=>?_⟩,λJ=>?_,K⟩;rcases zDf.1 (q.subset a) with rfl | a;exact y;exact u.right b a;unfold Smp;constructor;rintro ⟨b,a,rfl⟩;rcases zDf.1 (q.subset a) with rfl | a;exact .inl rfl;exact .inr ⟨b,a,rfl⟩;rintro (rfl |⟨b,a,rfl⟩);exact ⟨(r,J),q.symm.subset zs,rfl⟩;exact ⟨b,q.symm.subset (by simp [a]),rfl⟩
def vT (m:World) (b:Nat) (own:Nat->Nat) (i gk j d:Nat) (k:Int) (S f:List Nat) (N:Nat) (l:List Nat) (g:Ending) (e:World):Prop:=
 g=.returned (.tuple #[])/\∃c a,TxM e b c i gk j d k S f N l a/\Smp a 0/\sX (Smp a) d N/\LF b m e own c
def wO {d c j} (l:eZ d c j):(j=-1/\∀i,Smp d i->i < c)∨∃a:Nat,Smp d a/\j=(a:Int)/\c<=a/\∀b,Smp d b->c<=b->a<=b:=by
 rcases l with ⟨f,g⟩|⟨a,o,f,g,m⟩;exact .inl ⟨f,λi ⟨b,p,e⟩=>by rw [<-e];exact g b p⟩;exact .inr ⟨a.2,⟨a,o,rfl⟩,f,g,λb ⟨q,n,e⟩ k=>by rw [<-e] at k⊢;exact m q n k⟩
def xV {e} {N j:Nat} {a b:Int} (k:eZ e j b) (p:a+1=(j:Int)) (q:a<=(N:Int)):(b < 0->aNA (Smp e) N a ((N+1:Nat):Int))/\(¬b < 0->aNA (Smp e) N a b):=by
 rcases wO k with ⟨g,i⟩|⟨o,n,g,i,l⟩;refine ⟨λ_=>⟨by omega,λf d m=>?_,.inl rfl⟩,λc=>absurd oM c⟩;have:=i f d;omega;refine ⟨λc=>absurd c oM,λ_=>⟨by omega,λf d m=>?_,.inr ⟨o,n,g⟩⟩⟩;have:=l f d oM;omega
structure FillI (w0 wr:World) (B:Nat) (mL own:Nat->Nat) (gl gk gp rate:Nat) (mv:Int) (S T:List Nat) (N at_:Nat) (rs:List Nat) (pr:List (Nat×Nat)) (q:Int):Prop where
 tx:TxM wr B own gl gk gp rate mv S T N rs pr
 W:FG (Smp pr) rate N at_ q
 lf:LF B w0 wr mL own
def TxM.bw {c l own e gk n w u b m N j v} (f:TxM c l own e gk n w u (aG b) m N j v) (q:b.length=N) (x:N<=895):∀a:Nat,Calls prog 24 #[e] (c.drewN a) λd k=>d=.returned (.int .i64 N)/\∃t,k=c.drewN t:=λa=>by
 have i:=f.b (kb (km bR a));have s:(aH (aG b) j).length=N+1:=by rw [bY,f.aa.len,aO,q]
 exact (cD (i.live.g i.ag).ai s oM).mono λd k ⟨o,p⟩=>⟨o,a,p.symm⟩
def FG.ge {S r N at_ a} (c:FG S r N at_ a):-1<=a/\a<=((N+1:Nat):Int):=by
 rcases c.df with b | b |⟨e,d,b⟩;omega;omega;have:=c.le e d;omega
def aFO {s k own d gk i a H D F N at_ I u} (ac:TxM s k own d gk i a H (aG D) F N I u) (a5:D.length=N) (a6:N<=895) (bB:at_<=N) (a2:1<=a) (bD:a<=64) (aW:PreGap (Smp u) a N at_):
 Calls prog 115 #[d,(at_:Int)] s (vT s k own d gk i a H (aG D) F N I):=by
 have be:s.cell? ⟨d,1,none⟩=some (.pointer (some i)):=(ac.live.a.cell 1).trans rfl;have bx:IntKind.i64.wrap (2*a)=((2*a:Nat):Int):=zu
 have bz:IntKind.i64.wrap (at_ -(2*a:Nat))=(at_:Int) -(2*a:Nat):=zu
 have bA:IntKind.i64.wrap (at_+a)=(at_:Int)+a:=zu
 have bf:wrap64 (N+1)=((N+1:Nat):Int):=by rw [dU oM oM];rfl
 have aA:=ac;clear ac;unfold vT;go_enter func115,ntmps115;by_cases aH:∃p∈u,p.2=0
 .have aC:=vK (gp:=i) (R:=(N+1)) (P:=(N+1)) (pr:=u) (pos:=0) (w:=s) aA.live.ad aH;unfold aBa at aC;have aI:∀f,Smp u f↔Smp u f∨f=0:=λf=>⟨.inl,λac=>by
   rcases ac with ac | rfl;exact ac
   .exact aH⟩
  clear aH;go_wp2_with fail;refine aC.mono ?_;clear aC;rintro j a3 ⟨bv,bt,rfl,ad⟩;have bC:=zn ((bv:Int) < 0);have K:=(aA.b (kb ad));have aD:=(LF.i (B:=k) (own:=own) (kc ad));clear ad bt be aA;go_wp2_with fail;obtain ⟨E,aq⟩:=uS u (at_ - 2*a);refine wp_region_any kR<|aQ (S:=(Grow)) (V:=(Vs [is d,is d,is (.pointer (some ⟨d,1,none⟩)),is i,is (at_:Int),is d,is d,is (.pointer (some ⟨d,2,none⟩)),is (a:Int),is (.int .i64 (2*a:Nat)),is (.int .i64 ((at_:Int) -(2*a:Nat))),is (.int .i64 (at_ - 2*a:Nat)),is (.int .i64 E),is (.int .i64 E)])) [14,15,16,17,18,19,20,21,22,23,24,25,26,4] _ rfl kR bR (λ_ _=>Grow.trans) (dI tA0) ?_ ?_
  .refine aL<|pH 0 (.pointer (some d))<|pV 0 14<|pV 1 15<|pL 2 16 (λv g=>have g:(Grow) a3 v:=gD g;(((K.b (kb g)).live.a.cell 1).trans rfl:v.cell? ⟨d,1,none⟩=some (.pointer (some i)))) ?_;refine pH 1 (.int .i64 at_)<|pH 0 (.pointer (some d))<|pV 5 19<|pV 6 20<|pL 7 21 (λv g=>have g:(Grow) a3 v:=gD g;(((K.b (kb g)).live.a.cell 2).trans rfl:v.cell? ⟨d,2,none⟩=some (.int .i64 a))) ?_;refine pV 8 22<|sC (λ_ _ _ _ _ _ n _ _ _ M=>?_) ?_
   .have bm:_=_:=n 4 18 kR rfl;have bn:_=_:=n 9 23 kR rfl;go_simp;exact M _ _ bR (cS (by rw [wI0];push_cast;omega))
   refine sC (λ_ _ _ _ _ _ n _ _ _ M=>?_) ?_
   .have bo:_=_:=n 10 24 kR rfl;go_simp;exact M _ _ bR (cS oM)
   refine sC (λ_ v g _ _ _ n _ _ _ M=>?_) ?_
   .have bl:_=_:=n 3 17 kR rfl;have bp:_=_:=n 11 25 kR rfl;replace g:(Grow) a3 v:=gD g;go_simp;refine (jR (gp:=i) (R:=(N+1)) (P:=(N+1)) (C:=u) (pos:=(at_ - 2*a)) (z:=E) (w:=v) (K.b (kb g)).live.ad aq).mono ?_;rintro j bw ⟨rfl,b2⟩;exact M _ _ b2 rfl
   refine pV 12 26 ?_;exact aB
  .intro b1 bc g n;replace g:(Grow) a3 bc:=gD g;have b0:b1 (.tmp 4)=.int .i64 E:=n 13 4 rfl;simp only [zqq];rw [b0];clear n;have aR:=K.b (kb g);have aK:=aD.trans (LF.i (B:=k) (own:=own) (kc g));have aM:=aAB aW aI a2 (wO aq);have aE:=(FillI.mk aR aM aK);clear aR aK aM aq g K aD aI aW;go_wp2_with fail;go_loopw [4] (λp wr=>∃(b:Int) (o:Nat->Nat) (m:List (Nat×Nat)),p=.int .i64 b/\FillI s wr k own o d gk i a H (aG D) F N at_ I m b) (λp _=>((N:Int)+2 - intOf p).toNat)
   case atStart=>exact ⟨E,_,_,rfl,aE⟩
   case round=>
    clear aE;obtain ⟨b,o,m,rfl,e⟩:=hrel;obtain ⟨br,bs⟩:=e.W.ge;have a8:=e.tx.bw a5 a6;have aF:wr.cell? ⟨d,1,none⟩=some (.pointer (some i)):=(e.tx.live.a.cell 1).trans rfl;have a4:wr.cell? ⟨d,2,none⟩=some (.int .i64 a):=(e.tx.live.a.cell 2).trans rfl;have aN:=e.tx.live.a.lt;obtain ⟨au,b5⟩:=eqx (min (N:Int) ((at_:Int)+a));have aX:=b5;by_cases am:b<=au
    .have b9:=zBz am;obtain ⟨a0,an⟩:∃a0:Nat,b+1=(a0:Int):=⟨(b+1).toNat,by omega⟩;have W:b<=(N:Int):=oM;obtain ⟨a1,aT⟩:=uS m a0;obtain ⟨av,aw⟩:=xV (N:=N) aT an W;have bk:wrap64 (b+1)=(a0:Int):=(by rw [dU oM oM];exact an);have bi:=an;go_wp2_with fail;go_quiet ((with_reducible exact a8 _))
     rename_i nq
     have aS:=e.tx.b (kb (km bR nq));have aP:=jR (gp:=i) (R:=(N+1)) (P:=(N+1)) (C:=m) (pos:=a0) (z:=a1) (w:=(wr.drewN nq)) aS.live.ad aT;clear aS;go_wp2_with fail;refine aP.mono ?_;clear aP;rintro j w1 ⟨rfl,aJ⟩;have y:VB k wr w1:=kc ((km bR nq).trans aJ);have x:=e.tx.b y.1;have G:=e.lf.trans (LF.i (own:=o) y);clear y aJ a8 aF a4 aN;by_cases aU:a1 < 0
     .have aV:=zBz aU;have l:=(av oM);have aO:=x.bw a5 a6 0;clear av aw;go_wp2_with fail;refine aO.mono ?_;clear aO;rintro j J ⟨rfl,ar,rfl⟩;have Z:=x.b (kb (km bR ar));have ae:=G.trans (LF.i (B:=k) (own:=o) (kc (km bR ar)));generalize w1.drewN ar=J at Z ae⊢;obtain ⟨c,a7⟩:∃c:Int,((N+1:Nat):Int)=c:=⟨_,rfl⟩;rw [a7] at l;have bq:wrap64 (N+1)=c:=(by rw [bf];exact a7);have b7:=l.1;have b6:c<=((N+1:Nat):Int):=(by rcases l.2.2 with j |⟨az,ao,j⟩;omega;have:=e.W.le az ao;omega);have aY:IntKind.i64.wrap (c - b)=c - b:=zu;have a4:J.cell? ⟨d,2,none⟩=some (.int .i64 a):=(Z.live.a.cell 2).trans rfl;have b4:=Z.live.a.lt;by_cases Q:c - b<=(a:Int)
      .have af:=zn (c - b > (a:Int));have ag:¬(a:Int) < c - b:=oM;have ah:=rQ e.W l Q;go_wp2_with fail;go_roundw
       case rel=>exact ⟨c,o,m,by first | rfl |(congr 1 <;> omega),Z,ah,ae⟩
       case measure=>exact zr
      .have af:=zy (c - b > (a:Int));have ag:(a:Int) < c - b:=oM;obtain ⟨f,U,ak,al,_⟩:=jY (S':=Smp m) e.W l W a2 Q;have aZ:IntKind.i64.wrap (b+a)=(f:Int):=zu;have q:=qU (w:=J) (B:=k) (own:=o) (gl:=d) (gk:=gk) (gp:=i) (rate:=a) (mv:=H) (t:=D) (T:=F) (N:=N) (rs:=I) (pr:=m) (pos:=f) Z a5 a6 ak (λp Y j=>al ⟨p,Y,j⟩);unfold oZ at q;go_wp2_with fail;refine q.mono ?_;clear q;rintro j bb ⟨rfl,ax,A,ap,X,O⟩;have ai:FG (Smp A) a N at_ (f:Int):=(by obtain ⟨ay,b8,_,_,aj⟩:=jY (S':=Smp A) e.W l W a2 oM;have:ay=f:=(zj U);subst this;exact aj X);have aa:=(ae.trans O);have ab:=(show b < (f:Int) by have:=U;omega);clear X O;go_wp2_with fail;go_roundw
       case rel=>exact ⟨(f:Int),ax,A,rfl,ap,ai,aa⟩
       case measure=>simp [intOf];have:=ab;omega
     .have aV:=zBy aU;have l:=(aw oM);clear av aw;obtain ⟨c,a7⟩:∃c:Int,a1=c:=⟨_,rfl⟩;rw [a7] at l aV⊢;have L:=x;have a9:=G;clear x G;generalize w1=J at L a9⊢;have b7:=l.1;have b6:c<=((N+1:Nat):Int):=(by rcases l.2.2 with j |⟨az,ao,j⟩;omega;have:=e.W.le az ao;omega);have aY:IntKind.i64.wrap (c - b)=c - b:=zu;have a4:J.cell? ⟨d,2,none⟩=some (.int .i64 a):=(L.live.a.cell 2).trans rfl;have b4:=L.live.a.lt;by_cases Q:c - b<=(a:Int)
      .have af:=zn (c - b > (a:Int));have ag:¬(a:Int) < c - b:=oM;have ah:=rQ e.W l Q;go_wp2_with fail;go_roundw
       case rel=>exact ⟨c,o,m,by first | rfl |(congr 1 <;> omega),L,ah,a9⟩
       case measure=>exact zr
      .have af:=zy (c - b > (a:Int));have ag:(a:Int) < c - b:=oM;obtain ⟨f,U,ak,al,_⟩:=jY (S':=Smp m) e.W l W a2 Q;have aZ:IntKind.i64.wrap (b+a)=(f:Int):=zu;have q:=qU (w:=J) (B:=k) (own:=o) (gl:=d) (gk:=gk) (gp:=i) (rate:=a) (mv:=H) (t:=D) (T:=F) (N:=N) (rs:=I) (pr:=m) (pos:=f) L a5 a6 ak (λp Y j=>al ⟨p,Y,j⟩);unfold oZ at q;go_wp2_with fail;refine q.mono ?_;clear q;rintro j bb ⟨rfl,ax,A,ap,X,O⟩;have ai:FG (Smp A) a N at_ (f:Int):=(by obtain ⟨ay,b8,_,_,aj⟩:=jY (S':=Smp A) e.W l W a2 oM;have:ay=f:=(zj U);subst this;exact aj X);have aa:=(a9.trans O);have ab:=(show b < (f:Int) by have:=U;omega);clear X O;go_wp2_with fail;go_roundw
       case rel=>exact ⟨(f:Int),ax,A,rfl,ap,ai,aa⟩
       case measure=>simp [intOf];have:=ab;omega
    .have b9:=zBy am;have b3:=aEV e.W (by rw [aX];exact am);go_wp2_with fail;go_quiet ((with_reducible exact a8 _))
     rename_i nq
     have y:VB k wr (wr.drewN nq):=kc (km bR nq);have x:=e.tx.b y.1;have G:=e.lf.trans (LF.i (own:=o) y);clear y a8 aF a4 aN;go_wp2_with fail;go_end0;exact ⟨rfl,o,m,x,e.W.zero,b3,G⟩
 .have aC:=aBI (gp:=i) (R:=(N+1)) (P:=(N+1)) (pr:=u) (w:=s) 0 aA.live.ad (λp Y j=>aH ⟨p,Y,j⟩);go_wp2_with fail;refine aC.mono ?_;clear aC;rintro j bj ⟨rfl,ad⟩;have bh:=aA.b (kb ad);have q:=qU (w:=bj) (B:=k) (own:=own) (gl:=d) (gk:=gk) (gp:=i) (rate:=a) (mv:=H) (t:=D) (T:=F) (N:=N) (rs:=I) (pr:=u) (pos:=0) bh a5 a6 (zAp _) (λp Y j=>aH ⟨p,Y,j⟩);unfold oZ at q;have bd:=(LF.i (B:=k) (own:=own) (kc ad));clear ad bh be aA;go_wp2_with fail;refine q.mono ?_;clear q;rintro j a3 ⟨rfl,bu,ba,x,bg,G⟩;have K:=x;have aD:=(bd.trans G);have aI:∀f,Smp ba f↔Smp u f∨f=0:=λf=>(bg f).trans Or.comm;clear x bg G bd;go_wp2_with fail;obtain ⟨E,aq⟩:=uS ba (at_ - 2*a);refine wp_region_any kR<|aQ (S:=(Grow)) (V:=(Vs [is d,is d,is (.pointer (some ⟨d,1,none⟩)),is i,is (at_:Int),is d,is d,is (.pointer (some ⟨d,2,none⟩)),is (a:Int),is (.int .i64 (2*a:Nat)),is (.int .i64 ((at_:Int) -(2*a:Nat))),is (.int .i64 (at_ - 2*a:Nat)),is (.int .i64 E),is (.int .i64 E)])) [14,15,16,17,18,19,20,21,22,23,24,25,26,4] _ rfl kR bR (λ_ _=>Grow.trans) (dI tA0) ?_ ?_
  .refine aL<|pH 0 (.pointer (some d))<|pV 0 14<|pV 1 15<|pL 2 16 (λv g=>have g:(Grow) a3 v:=gD g;(((K.b (kb g)).live.a.cell 1).trans rfl:v.cell? ⟨d,1,none⟩=some (.pointer (some i)))) ?_;refine pH 1 (.int .i64 at_)<|pH 0 (.pointer (some d))<|pV 5 19<|pV 6 20<|pL 7 21 (λv g=>have g:(Grow) a3 v:=gD g;(((K.b (kb g)).live.a.cell 2).trans rfl:v.cell? ⟨d,2,none⟩=some (.int .i64 a))) ?_;refine pV 8 22<|sC (λ_ _ _ _ _ _ n _ _ _ M=>?_) ?_
   .have bm:_=_:=n 4 18 kR rfl;have bn:_=_:=n 9 23 kR rfl;go_simp;exact M _ _ bR (cS (by rw [wI0];push_cast;omega))
   refine sC (λ_ _ _ _ _ _ n _ _ _ M=>?_) ?_
   .have bo:_=_:=n 10 24 kR rfl;go_simp;exact M _ _ bR (cS oM)
   refine sC (λ_ v g _ _ _ n _ _ _ M=>?_) ?_
   .have bl:_=_:=n 3 17 kR rfl;have bp:_=_:=n 11 25 kR rfl;replace g:(Grow) a3 v:=gD g;go_simp;refine (jR (gp:=i) (R:=(N+1)) (P:=(N+1)) (C:=ba) (pos:=(at_ - 2*a)) (z:=E) (w:=v) (K.b (kb g)).live.ad aq).mono ?_;rintro j bw ⟨rfl,b2⟩;exact M _ _ b2 rfl
   refine pV 12 26 ?_;exact aB
  .intro b1 bc g n;replace g:(Grow) a3 bc:=gD g;have b0:b1 (.tmp 4)=.int .i64 E:=n 13 4 rfl;simp only [zqq];rw [b0];clear n;have aR:=K.b (kb g);have aK:=aD.trans (LF.i (B:=k) (own:=bu) (kc g));have aM:=aAB aW aI a2 (wO aq);have aE:=(FillI.mk aR aM aK);clear aR aK aM aq g K aD aI aW;go_wp2_with fail;go_loopw [4] (λp wr=>∃(b:Int) (o:Nat->Nat) (m:List (Nat×Nat)),p=.int .i64 b/\FillI s wr k own o d gk i a H (aG D) F N at_ I m b) (λp _=>((N:Int)+2 - intOf p).toNat)
   case atStart=>exact ⟨E,_,_,rfl,aE⟩
   case round=>
    clear aE;obtain ⟨b,o,m,rfl,e⟩:=hrel;obtain ⟨br,bs⟩:=e.W.ge;have a8:=e.tx.bw a5 a6;have aF:wr.cell? ⟨d,1,none⟩=some (.pointer (some i)):=(e.tx.live.a.cell 1).trans rfl;have a4:wr.cell? ⟨d,2,none⟩=some (.int .i64 a):=(e.tx.live.a.cell 2).trans rfl;have aN:=e.tx.live.a.lt;obtain ⟨au,b5⟩:=eqx (min (N:Int) ((at_:Int)+a));have aX:=b5;by_cases am:b<=au
    .have b9:=zBz am;obtain ⟨a0,an⟩:∃a0:Nat,b+1=(a0:Int):=⟨(b+1).toNat,by omega⟩;have W:b<=(N:Int):=oM;obtain ⟨a1,aT⟩:=uS m a0;obtain ⟨av,aw⟩:=xV (N:=N) aT an W;have bk:wrap64 (b+1)=(a0:Int):=(by rw [dU oM oM];exact an);have bi:=an;go_wp2_with fail;go_quiet ((with_reducible exact a8 _))
     rename_i nq
     have aS:=e.tx.b (kb (km bR nq));have aP:=jR (gp:=i) (R:=(N+1)) (P:=(N+1)) (C:=m) (pos:=a0) (z:=a1) (w:=(wr.drewN nq)) aS.live.ad aT;clear aS;go_wp2_with fail;refine aP.mono ?_;clear aP;rintro j w1 ⟨rfl,aJ⟩;have y:VB k wr w1:=kc ((km bR nq).trans aJ);have x:=e.tx.b y.1;have G:=e.lf.trans (LF.i (own:=o) y);clear y aJ a8 aF a4 aN;by_cases aU:a1 < 0
     .have aV:=zBz aU;have l:=(av oM);have aO:=x.bw a5 a6 0;clear av aw;go_wp2_with fail;refine aO.mono ?_;clear aO;rintro j J ⟨rfl,ar,rfl⟩;have Z:=x.b (kb (km bR ar));have ae:=G.trans (LF.i (B:=k) (own:=o) (kc (km bR ar)));generalize w1.drewN ar=J at Z ae⊢;obtain ⟨c,a7⟩:∃c:Int,((N+1:Nat):Int)=c:=⟨_,rfl⟩;rw [a7] at l;have bq:wrap64 (N+1)=c:=(by rw [bf];exact a7);have b7:=l.1;have b6:c<=((N+1:Nat):Int):=(by rcases l.2.2 with j |⟨az,ao,j⟩;omega;have:=e.W.le az ao;omega);have aY:IntKind.i64.wrap (c - b)=c - b:=zu;have a4:J.cell? ⟨d,2,none⟩=some (.int .i64 a):=(Z.live.a.cell 2).trans rfl;have b4:=Z.live.a.lt;by_cases Q:c - b<=(a:Int)
      .have af:=zn (c - b > (a:Int));have ag:¬(a:Int) < c - b:=oM;have ah:=rQ e.W l Q;go_wp2_with fail;go_roundw
       case rel=>exact ⟨c,o,m,by first | rfl |(congr 1 <;> omega),Z,ah,ae⟩
       case measure=>exact zr
      .have af:=zy (c - b > (a:Int));have ag:(a:Int) < c - b:=oM;obtain ⟨f,U,ak,al,_⟩:=jY (S':=Smp m) e.W l W a2 Q;have aZ:IntKind.i64.wrap (b+a)=(f:Int):=zu;have q:=qU (w:=J) (B:=k) (own:=o) (gl:=d) (gk:=gk) (gp:=i) (rate:=a) (mv:=H) (t:=D) (T:=F) (N:=N) (rs:=I) (pr:=m) (pos:=f) Z a5 a6 ak (λp Y j=>al ⟨p,Y,j⟩);unfold oZ at q;go_wp2_with fail;refine q.mono ?_;clear q;rintro j bb ⟨rfl,ax,A,ap,X,O⟩;have ai:FG (Smp A) a N at_ (f:Int):=(by obtain ⟨ay,b8,_,_,aj⟩:=jY (S':=Smp A) e.W l W a2 oM;have:ay=f:=(zj U);subst this;exact aj X);have aa:=(ae.trans O);have ab:=(show b < (f:Int) by have:=U;omega);clear X O;go_wp2_with fail;go_roundw
       case rel=>exact ⟨(f:Int),ax,A,rfl,ap,ai,aa⟩
       case measure=>simp [intOf];have:=ab;omega
     .have aV:=zBy aU;have l:=(aw oM);clear av aw;obtain ⟨c,a7⟩:∃c:Int,a1=c:=⟨_,rfl⟩;rw [a7] at l aV⊢;have L:=x;have a9:=G;clear x G;generalize w1=J at L a9⊢;have b7:=l.1;have b6:c<=((N+1:Nat):Int):=(by rcases l.2.2 with j |⟨az,ao,j⟩;omega;have:=e.W.le az ao;omega);have aY:IntKind.i64.wrap (c - b)=c - b:=zu;have a4:J.cell? ⟨d,2,none⟩=some (.int .i64 a):=(L.live.a.cell 2).trans rfl;have b4:=L.live.a.lt;by_cases Q:c - b<=(a:Int)
      .have af:=zn (c - b > (a:Int));have ag:¬(a:Int) < c - b:=oM;have ah:=rQ e.W l Q;go_wp2_with fail;go_roundw
       case rel=>exact ⟨c,o,m,by first | rfl |(congr 1 <;> omega),L,ah,a9⟩
       case measure=>exact zr
      .have af:=zy (c - b > (a:Int));have ag:(a:Int) < c - b:=oM;obtain ⟨f,U,ak,al,_⟩:=jY (S':=Smp m) e.W l W a2 Q;have aZ:IntKind.i64.wrap (b+a)=(f:Int):=zu;have q:=qU (w:=J) (B:=k) (own:=o) (gl:=d) (gk:=gk) (gp:=i) (rate:=a) (mv:=H) (t:=D) (T:=F) (N:=N) (rs:=I) (pr:=m) (pos:=f) L a5 a6 ak (λp Y j=>al ⟨p,Y,j⟩);unfold oZ at q;go_wp2_with fail;refine q.mono ?_;clear q;rintro j bb ⟨rfl,ax,A,ap,X,O⟩;have ai:FG (Smp A) a N at_ (f:Int):=(by obtain ⟨ay,b8,_,_,aj⟩:=jY (S':=Smp A) e.W l W a2 oM;have:ay=f:=(zj U);subst this;exact aj X);have aa:=(a9.trans O);have ab:=(show b < (f:Int) by have:=U;omega);clear X O;go_wp2_with fail;go_roundw
       case rel=>exact ⟨(f:Int),ax,A,rfl,ap,ai,aa⟩
       case measure=>simp [intOf];have:=ab;omega
    .have b9:=zBy am;have b3:=aEV e.W (by rw [aX];exact am);go_wp2_with fail;go_quiet ((with_reducible exact a8 _))
     rename_i nq
     have y:VB k wr (wr.drewN nq):=kc (km bR nq);have x:=e.tx.b y.1;have G:=e.lf.trans (LF.i (own:=o) y);clear y a8 aF a4 aN;go_wp2_with fail;go_end0;exact ⟨rfl,o,m,x,e.W.zero,b3,G⟩
end
section
def aKe (b) {a} (c) (d:a<=b.length):aG (aT b a c)=aT (aG b) a (c.toNat+1):=by
 unfold aG dQ aT;rw [zAz,zEJ,zDw,zEb,zDi (by simpa using d),zDC (by simpa using d)];simp
def aKf (b) {a} (c:a < b.length):aG (aK b a)=aK (aG b) a:=by
 unfold aG dQ aK;rw [zAz,zDw,zEb,zDi zt,zDC zt];simp
def zX {a} {b s c:Nat} (f:a[b]?=some c):(c::a.set b s).Perm (s::a):=by
 obtain ⟨d,e⟩:=zAc.1 f;have g:a.set b s=a.take b++s::a.drop (b+1):=List.set_eq_take_append_cons_drop .. |>.trans (by rw [zBx d]);have i:a=a.take b++c::a.drop (b+1):=by
  conv=>lhs;rw [<-zAu b a]
  rw [zAx d,e]
 rw [g]
 conv=>rhs;rw [i]
 refine ((zFD).cons c).trans<|(List.Perm.swap s c _).trans ?_;exact ((zFD).symm.cons s)
section
variable {S S' : Nat -> Prop} {r N at_ : Nat}
def aGy (o:sX S r N) (t:S 0) (v:∀a,S a->a<=N) (x:1<=r) (w:at_<=N) (n:∀c,S' c↔∃a,S a/\c=sh at_ a):PreGap S' r (N+1) at_:=by
 have mk:∀a,S a->S' (sh at_ a):=λa d=>(n _).2 ⟨a,d,rfl⟩;have u:S' 0∨(at_=0/\S' 1):=by by_cases e:at_=0;right;have:=mk 0 t;unfold sh at this;rw [zBw oM] at this;exact ⟨e,this⟩;left;have:=mk 0 t;unfold sh at this;rw [zBx oM] at this;exact this
 refine ⟨λc l=>?_,λc l q g=>?_,λc l g=>?_⟩
 .obtain ⟨a,d,rfl⟩:=(n c).1 l;have:=v a d;unfold sh;split <;> omega
 by_cases i:S' c;obtain ⟨a,d,rfl⟩:=(n c).1 i;unfold sh at q g⊢;by_cases e:a < at_;rw [zBx e] at q g⊢;obtain ⟨b,j,k,m⟩:=o a d oM;have:=mk b j;unfold sh at this;rw [zBx oM] at this;exact ⟨b,this,k,m⟩;rw [zBw e] at q g⊢;obtain ⟨b,j,k,m⟩:=o a d oM;have:=mk b j;unfold sh at this;rw [zBw oM] at this;exact ⟨b+1,this,by omega,by omega⟩;have p:c=0:=l.resolve_left i;subst p;rcases u with f |⟨_,f⟩;exact absurd f i;exact ⟨1,f,by omega,by omega⟩;by_cases i:S' c;obtain ⟨a,d,rfl⟩:=(n c).1 i;unfold sh at g⊢;by_cases e:a < at_;rw [zBx e] at g⊢;obtain ⟨b,j,k,m⟩:=o a d oM;have:=mk b j;unfold sh at this;by_cases s:b < at_;rw [zBx s] at this;exact ⟨b,this,k,by omega⟩;rw [zBw s] at this;exact ⟨b+1,this,by omega,by omega⟩;rw [zBw e] at g⊢;obtain ⟨b,j,k,m⟩:=o a d oM;have:=mk b j;unfold sh at this;rw [zBw oM] at this;exact ⟨b+1,this,by omega,by omega⟩;have p:c=0:=l.resolve_left i;subst p;rcases u with f |⟨_,f⟩;exact absurd f i;exact ⟨1,f,by omega,by omega⟩
def aGz (m:sX S r (N+1)) (w:S 0) (B:∀a,S a->a<=N+1) (G:1<=r) (F:at_<=N) (q:∀d,S' d↔∃a,S a/\a≠at_/\d=ush at_ a):PreGap S' r N at_:=by
 have mk:∀a,S a->a≠at_->S' (ush at_ a):=λa c s=>(q _).2 ⟨a,c,s,rfl⟩;have v:∀a,S a->a < at_->S' a:=λa c x=>by have:=mk a c oM;unfold ush at this;rwa [zBx x] at this
 have o:∀a,S a->at_ < a->S' (a - 1):=λa c x=>by have:=mk a c oM;unfold ush at this;rwa [zBw oM] at this
 have z:¬S' 0->1<=N+1 - 0->0+r<=N+1->∃b,S' b/\0 < b/\b+1<=r:=λy _ j=>by
  have E:at_=0:=by by_cases g:at_=0;exact g;exact absurd (v 0 w oM) y
  obtain ⟨b,e,f,i⟩:=m 0 w j;have l:=o b e oM;by_cases g:b=1;subst g;exact absurd l y;exact ⟨b - 1,l,by omega,by omega⟩
 refine ⟨λd p=>?_,λd p u j=>?_,λd p j=>?_⟩
 .obtain ⟨a,c,s,rfl⟩:=(q d).1 p;have:=B a c;unfold ush;split <;> omega
 by_cases k:S' d;obtain ⟨a,c,s,rfl⟩:=(q d).1 k;unfold ush at u j⊢;by_cases g:a < at_;rw [zBx g] at u j⊢;obtain ⟨b,e,f,i⟩:=m a c oM;exact ⟨b,v b e oM,f,i⟩;rw [zBw g] at u j⊢;obtain ⟨b,e,f,i⟩:=m a c oM;exact ⟨b - 1,o b e oM,by omega,by omega⟩;have t:d=0:=p.resolve_left k;subst t;obtain ⟨b,f,i,l⟩:=z k oM oM;exact ⟨b,f,i,by omega⟩;by_cases k:S' d;obtain ⟨a,c,s,rfl⟩:=(q d).1 k;unfold ush at j⊢;by_cases g:a < at_;rw [zBx g] at j⊢;obtain ⟨b,e,f,i⟩:=m a c oM;rcases zDD b at_ with n | n | n;exact ⟨b,v b e n,f,by omega⟩;subst n;obtain ⟨A,C,l,D⟩:=m b e oM;exact ⟨A - 1,o A C l,by omega,by omega⟩;exact ⟨b - 1,o b e n,by omega,by omega⟩;rw [zBw g] at j⊢;obtain ⟨b,e,f,i⟩:=m a c oM;exact ⟨b - 1,o b e oM,by omega,by omega⟩;have t:d=0:=p.resolve_left k;subst t;obtain ⟨b,f,i,l⟩:=z k oM oM;exact ⟨b,f,i,by omega⟩
end
end
end Go.Proofs.YtknjfpcdhdmghaaGreatDoor
