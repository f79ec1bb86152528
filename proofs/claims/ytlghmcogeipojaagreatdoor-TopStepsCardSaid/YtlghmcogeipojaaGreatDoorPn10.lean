/- Lemmas of the walk. Conditions: each its own. -/
import Derived.Test.YtlghmcogeipojaaGreatDoorPn9
set_option linter.all false
set_option maxRecDepth 100000
set_option maxHeartbeats 4000000
open Go.Proofs.Tryz
namespace Go.Proofs.YtlghmcogeipojaaGreatDoor
open Go.RowKit Go.Shelf Go
def uS (d f):∃a,eZ d f a:=by
 have j:∀c,∃a,eZ (d.take c) f a:=by
  intro c
  induction c with
  | zero=>exact ⟨-1,.inl ⟨rfl,λe g=>by simp at g⟩⟩
  | succ c i=>
   obtain ⟨a,b⟩:=i;rw [zAv];cases k:d[c]? with
   | none=>exact ⟨a,by simpa using b⟩
   | some e=>exact ⟨_,aAs b e.1 e.2⟩
 obtain ⟨a,b⟩:=j d.length;rw [zFf] at b;exact ⟨a,b⟩
def aLp {g i k l} (m:eZ g i k) (e:eZ g i l):k=l:=by
 rcases m with ⟨rfl,b⟩|⟨j,f,rfl,b,n⟩;rcases e with ⟨rfl,_⟩|⟨d,c,rfl,a,_⟩;rfl;have:=b d c;omega;rcases e with ⟨rfl,a⟩|⟨d,c,rfl,a,o⟩;have:=a j f;omega;have:=n d c a;have:=o j f b;omega
def jR {gp R P C pos z w} (c:PermR w gp R P C) (e:eZ C pos z):
 Calls prog 108 #[gp,(pos:Int)] w λa b=>a=.returned (.int .i64 z)/\Below w.heap.size w b:=by
 refine (sV pos c).mono ?_;rintro a b ⟨g,rfl,f,d⟩;exact ⟨by rw [aLp e f],d⟩
def PermE.len {o e g a f b} (d:PermE o e g a f b):b.length<=a:=by
 have i:(b.map λc=>c.1).Nodup:=by rw [List.Nodup,zDm];exact d.2.1.imp λ{p q} k=>zGh k
 have j:=iS (n:=a) i λs l=>by obtain ⟨c,m,rfl⟩:=zAy.1 l;exact (d.2.2 c m).1
 simpa using j
def Smp (b:List (Nat×Nat)) (a:Nat):Prop:=∃c∈b,c.2=a
structure FG (S:Nat->Prop) (r N at_:Nat) (q:Int):Prop where
 zero:S 0
 le:∀s,S s->s<=N
 df:q=-1∨q=((N+1:Nat):Int)∨∃s:Nat,S s/\q=(s:Int)
 bp:∀s:Nat,S s->((s:Int) < q∨at_<=s)->s+r<=N->∃s',S s'/\s < s'/\s'<=s+r
 cc:∀s:Nat,S s->s+2*r<=N->∃s',S s'/\s < s'/\s'<=s+2*r
def sX (S:Nat->Prop) (r N:Nat):Prop:=∀a:Nat,S a->a+r<=N->∃b,S b/\a < b/\b<=a+r
structure PreGap (S:Nat->Prop) (r N at_:Nat):Prop where
 le:∀s,S s->s<=N
 bp:∀s:Nat,(S s∨s=0)->(s+r < at_∨at_<=s)->s+r<=N->∃s',S s'/\s < s'/\s'<=s+r
 cc:∀s:Nat,(S s∨s=0)->s+2*r<=N->∃s',S s'/\s < s'/\s'<=s+2*r
def FG.congr {S S' r N at_ b} (d:FG S r N at_ b) (c:∀a,S' a↔S a):FG S' r N at_ b:=by
 have:S'=S:=funext λa=>propext (c a);rw [this];exact d
def aAB {S f r N at_ q} (j:PreGap S r N at_) (e:∀o,f o↔S o∨o=0) (v:1<=r) (c:(q=-1/\∀a,f a->a < at_ - 2*r)∨∃d:Nat,f d/\q=(d:Int)/\at_ - 2*r<=d/\∀p,f p->at_ - 2*r<=p->d<=p):FG f r N at_ q:=by
 refine ⟨(e 0).2 (.inr rfl),λa b=>?_,?_,λa b i n=>?_,λa b n=>?_⟩;rcases (e a).1 b with b | rfl;exact j.le a b;exact zAp _;rcases c with ⟨c,_⟩|⟨d,s,c,_⟩;exact .inl c;exact .inr (.inr ⟨d,s,c⟩)
 .obtain ⟨g,k,l,m⟩:=j.bp a ((e a).1 b) (by
   rcases i with i | i;rcases c with ⟨c,_⟩|⟨d,s,c,w,u⟩;omega;by_cases t:at_ - 2*r<=a;have:=u a b t;omega;exact .inl oM
   .exact .inr i) n
  exact ⟨g,(e g).2 (.inl k),l,m⟩
 obtain ⟨g,k,l,m⟩:=j.cc a ((e a).1 b) n;exact ⟨g,(e g).2 (.inl k),l,m⟩
def aEV {S r N at_ a} (c:FG S r N at_ a) (g:¬a<=min (N:Int) ((at_:Int)+r)):sX S r N:=λb d f=>by
 refine c.bp b d ?_ f;have:=c.le b d;by_cases e:(b:Int) < a;exact .inl e;right;omega
def aNA (S:Nat->Prop) (N:Nat) (c b:Int):Prop:=c < b/\(∀a:Nat,S a->c < (a:Int)->b<=(a:Int))/\(b=((N+1:Nat):Int)∨∃a:Nat,S a/\b=(a:Int))
def rQ {S r N at_ b g} (a:FG S r N at_ b) (k:aNA S N b g) (p:g - b<=(r:Int)):FG S r N at_ g:=by
 obtain ⟨q,m,e⟩:=k;refine ⟨a.zero,a.le,.inr e,λc f d i=>?_,a.cc⟩;rcases d with d | d;by_cases j:(c:Int) < b;exact a.bp c f (.inl j) i;by_cases o:(c:Int)=b;rcases e with e |⟨n,l,e⟩;omega;exact ⟨n,l,by omega,by omega⟩;have:=m c f oM;omega;exact a.bp c f (.inr d) i
def jY {S S' r N at_ j q} (e:FG S r N at_ j) (z:aNA S N j q) (H:j<=(N:Int)) (J:1<=r) (I:¬q - j<=(r:Int)):∃l:Nat,j+(r:Int)=l/\l<=N/\¬S l/\((∀t,S' t↔t=l∨S t)->FG S' r N at_ (l:Int)):=by
 obtain ⟨K,o,D⟩:=z;have A:∃d:Nat,S d/\j=d:=by rcases e.df with k | k | k;exfalso;have:=o 0 e.zero oM;omega;omega;exact k
 obtain ⟨d,B,rfl⟩:=A;have G:q<=((N+1:Nat):Int):=by rcases D with k |⟨E,C,k⟩;omega;have:=e.le E C;omega
 refine ⟨d+r,by omega,by omega,λb=>?_,λf=>?_⟩;have:=o _ b oM;omega
 .have s:∀ {u v:Nat},(∃a,S a/\u < a/\a<=v)->∃a,S' a/\u < a/\a<=v:=λ⟨a,y,n⟩=>⟨a,(f a).2 (.inr y),n⟩;have n:d+2*r<=N->∃a,S' a/\d+r < a/\a<=d+2*r:=λi=>by obtain ⟨a,g,m,p⟩:=e.cc d B i;have:=o a g oM;exact ⟨a,(f a).2 (.inr g),by omega,p⟩
  refine ⟨(f 0).2 (.inr e.zero),λc b=>?_,.inr (.inr ⟨d+r,(f _).2 (.inl rfl),rfl⟩),λc b F i=>?_,λc b i=>?_⟩;rcases (f c).1 b with rfl | b;omega;exact e.le c b;rcases (f c).1 b with rfl | b;obtain ⟨a,g,m,p⟩:=n oM;exact ⟨a,g,m,by omega⟩;by_cases w:c=d;subst w;exact ⟨c+r,(f _).2 (.inl rfl),by omega,zAs _⟩;by_cases x:(c:Int) < d;exact s (e.bp c b (.inl x) i);have:=o c b oM;exact s (e.bp c b (.inr oM) i);rcases (f c).1 b with rfl | b;obtain ⟨a,g,m,p⟩:=n oM;exact ⟨a,g,m,by omega⟩;exact s (e.cc c b i)
structure TxM (w:World) (B:Nat) (own:Nat->Nat) (gl gk gp rate:Nat) (mv:Int) (S T:List Nat) (N:Nat) (rs:List Nat) (pr:List (Nat×Nat)):Prop where
 aa:IsSuf S rs
 live:LiveM w B own gl gk gp rate mv (N+1) (N+1) (aH S rs) T pr
 ag:T.Perm (aH S rs)
 right:∀x∈pr,rs[x.1]?=some x.2
def TxM.b {k w' b own d gk e i f S c N j g} (a:TxM k b own d gk e i f S c N j g) (l:Vis k w'):TxM w' b own d gk e i f S c N j g:=⟨a.aa,a.live.b l,a.ag,a.right⟩
def oZ (p:World) (b:Nat) (own:Nat->Nat) (i gk j n:Nat) (k:Int) (S f:List Nat) (N:Nat) (o:List Nat) (m:List (Nat×Nat)) (l:Nat) (g:Ending) (e:World):Prop:=
 g=.returned (.tuple #[])/\∃c d,TxM e b c i gk j n k S f N o d/\(∀a,Smp d a↔a=l∨Smp m a)/\LF b p e own c
def qU {w B own gl gk gp rate mv t T N rs pr pos} (j:TxM w B own gl gk gp rate mv (aG t) T N rs pr) (n:t.length=N) (F:N<=895) (U:pos<=N) (G:∀b∈pr,b.2≠pos):
 Calls prog 159 #[gl,(pos:Int)] w (oZ w B own gl gk gp rate mv (aG t) T N rs pr pos):=by
 subst n;obtain ⟨r,H,I⟩:=j.aa.row (p:=pos) (by rw [aO];omega);have y:rs[r]?=some pos:=by rw [zAa H,I]
 have V:r < t.length+1:=by have:=j.aa.len;rw [aO] at this;omega
 have W:∀e,VB B w e->Calls prog 51 #[gl,(pos:Int)] e λl a0=>l=.returned (.int .i64 r)/\VB B e a0:=λe X=>by have o:=j.b X.1;exact gP B gl gk gp rate e (o.live.g o.ag) o.right o.aa F y
 have R:∀b∈pr,b.1≠r:=λb a l=>by have:=j.right b a;rw [l,y] at this;injection this with this;exact G b a this.symm
 have Q:pr.length<=900:=zj j.live.perm.len
 have s:=j.live;have u:=j;obtain ⟨N,n⟩:=eqx t.length;rw [n] at F U V;clear j I H;rw [n] at s;unfold oZ;go_enter func159,ntmps159;go_wp2_with fail;refine wp_region_any kR<|cC (pJ:=(cO)) B 8 [4,5,6,7,8,9,10,11] (λ_=>False) 100 [] [is gl,is gl,is (.pointer (some ⟨gl,1,none⟩)),is gp,is gl,is (pos:Int),is (r:Int),is (pos:Int)] _ rfl dC kR kR kR (trivial) (λ_ _ _ _ _=>trivial) (λ_ _ _ j _=>j) tA0 ?_ ?_
 .refine bB<|pH3 0 (.pointer (some gl))<|pV3 0 4<|pV3 1 5<|sC3 (λ_ e d _ _ _ _ k _ _ _ m=>?_) ?_
  .replace d:VFB B (λ_=>False) w e:=fD d;have a3:_=_:=k 2 6 kR rfl;have a2:e.cell? ⟨gl,1,none⟩=some (.pointer (some gp)):=((s.b (VFB.y d λ_ _ c=>c).1).a.cell 1).trans rfl;go_simp;exact m _ _ (aI vR) rfl
  refine pH3 0 (.pointer (some gl))<|pH3 1 (.int .i64 pos)<|sC3 (λ_ e d _ _ _ _ k _ _ _ m=>?_) ?_
  .replace d:VFB B (λ_=>False) w e:=fD d;have a4:_=_:=k 4 8 kR rfl;have a5:_=_:=k 5 9 kR rfl;go_simp;refine (W e (VFB.y d λ_ _ c=>c)).mono ?_;rintro l a1 ⟨rfl,Y⟩;exact m _ _ (aI Y) rfl
  refine pH3 1 (.int .i64 pos) ?_;exact aB
 .intro v A c d k a6;replace d:VFB B (λ_=>False) w A:=fD d;have O:v (.tmp 7)=.pointer (some gp):=k 3 7 dC rfl;have L:v (.tmp 10)=.int .i64 r:=k 6 10 dC rfl;have M:v (.tmp 11)=.int .i64 pos:=k 7 11 dC rfl;simp only [zqq];rw [O];rw [L];rw [M];clear k;change wpAny prog Region.Mode.any _ _ (1+c) (bT 8 9) _ A;rw [zCt 1 c];refine aY (f:=c) (i:=8) kR ?_;refine bJ rfl rfl ?_;generalize m:wpAny prog _ _ _ c _=K5;go_simp;have z:VB B w A:=VFB.y d λ_ _ c=>c;have x:=s.b z.1;refine (aDX x.perm oM oM R G Q).mono ?_;rintro l a1 ⟨rfl,⟨Z,q,C⟩,E⟩;obtain ⟨P,D⟩:=x.S C E;have K:=((LF.i (own:=own) z).trans D);clear D C E x z;subst m;refine bG kR ?_;go_wp2_with fail;go_end0;refine ⟨rfl,_,Z,⟨u.aa,by rw [n];exact P,u.ag,λb a=>?_⟩,λJ=>?_,K⟩;rcases zDf.1 (q.subset a) with rfl | a;exact y;exact u.right b a;unfold Smp;constructor;rintro ⟨b,a,rfl⟩;rcases zDf.1 (q.subset a) with rfl | a;exact .inl rfl;exact .inr ⟨b,a,rfl⟩;rintro (rfl |⟨b,a,rfl⟩);exact ⟨(r,J),q.symm.subset zs,rfl⟩;exact ⟨b,q.symm.subset (by simp [a]),rfl⟩
def vT (m:World) (b:Nat) (own:Nat->Nat) (i gk j d:Nat) (k:Int) (S f:List Nat) (N:Nat) (l:List Nat) (g:Ending) (e:World):Prop:=
 g=.returned (.tuple #[])/\∃c a,TxM e b c i gk j d k S f N l a/\Smp a 0/\sX (Smp a) d N/\LF b m e own c
def wO {d c j} (l:eZ d c j):(j=-1/\∀i,Smp d i->i < c)∨∃a:Nat,Smp d a/\j=(a:Int)/\c<=a/\∀b,Smp d b->c<=b->a<=b:=by
 rcases l with ⟨f,g⟩|⟨a,o,f,g,m⟩;exact .inl ⟨f,λi ⟨b,p,e⟩=>by rw [<-e];exact g b p⟩;exact .inr ⟨a.2,⟨a,o,rfl⟩,f,g,λb ⟨q,n,e⟩ k=>by rw [<-e] at k⊢;exact m q n k⟩
def xV {e} {N j:Nat} {a b:Int} (k:eZ e j b) (p:a+1=(j:Int)) (q:a<=(N:Int)):(b < 0->aNA (Smp e) N a ((N+1:Nat):Int))/\(¬b < 0->aNA (Smp e) N a b):=by
 rcases wO k with ⟨g,i⟩|⟨o,n,g,i,l⟩;refine ⟨λ_=>⟨by omega,λf d m=>?_,.inl rfl⟩,λc=>absurd oM c⟩;have:=i f d;omega;refine ⟨λc=>absurd c oM,λ_=>⟨by omega,λf d m=>?_,.inr ⟨o,n,g⟩⟩⟩;have:=l f d oM;omega
structure FillI (w0 wr:World) (B:Nat) (mL own:Nat->Nat) (gl gk gp rate:Nat) (mv:Int) (S T:List Nat) (N at_:Nat) (rs:List Nat) (pr:List (Nat×Nat)) (q:Int):Prop where
 tx:TxM wr B own gl gk gp rate mv S T N rs pr
 W:FG (Smp pr) rate N at_ q
 lf:LF B w0 wr mL own
def TxM.bw {c l own e gk n w u b m N j v} (f:TxM c l own e gk n w u (aG b) m N j v) (q:b.length=N) (x:N<=895):∀a:Nat,Calls prog 17 #[e] (c.drewN a) λd k=>d=.returned (.int .i64 N)/\∃t,k=c.drewN t:=λa=>by
 have i:=f.b (kb (km bR a));have s:(aH (aG b) j).length=N+1:=by rw [bY,f.aa.len,aO,q]
 exact (cD (i.live.g i.ag).ai s oM).mono λd k ⟨o,p⟩=>⟨o,a,p.symm⟩
def FG.ge {S r N at_ a} (c:FG S r N at_ a):-1<=a/\a<=((N+1:Nat):Int):=by
 rcases c.df with b | b |⟨e,d,b⟩;omega;omega;have:=c.le e d;omega
def aFO {s k own d gk i a H D F N at_ I u} (ac:TxM s k own d gk i a H (aG D) F N I u) (a5:D.length=N) (a6:N<=895) (bB:at_<=N) (a2:1<=a) (bD:a<=64) (aW:PreGap (Smp u) a N at_):
 Calls prog 99 #[d,(at_:Int)] s (vT s k own d gk i a H (aG D) F N I):=by
 have be:s.cell? ⟨d,1,none⟩=some (.pointer (some i)):=(ac.live.a.cell 1).trans rfl;have bx:IntKind.i64.wrap (2*a)=((2*a:Nat):Int):=zu
 have bz:IntKind.i64.wrap (at_ -(2*a:Nat))=(at_:Int) -(2*a:Nat):=zu
 have bA:IntKind.i64.wrap (at_+a)=(at_:Int)+a:=zu
 have bf:wrap64 (N+1)=((N+1:Nat):Int):=by rw [dU oM oM];rfl
 have aA:=ac;clear ac;unfold vT;go_enter func99,ntmps99;by_cases aH:∃p∈u,p.2=0
 .have aC:=vK (gp:=i) (R:=(N+1)) (P:=(N+1)) (pr:=u) (pos:=0) (w:=s) aA.live.ad aH;unfold aBa at aC;have aI:∀f,Smp u f↔Smp u f∨f=0:=λf=>⟨.inl,λac=>by
   rcases ac with ac | rfl;exact ac
   .exact aH⟩
  clear aH;go_wp2_with fail;refine aC.mono ?_;clear aC;rintro j a3 ⟨bv,bt,rfl,ad⟩;have bC:=zn ((bv:Int) < 0);have K:=(aA.b (kb ad));have aD:=(LF.i (B:=k) (own:=own) (kc ad));clear ad bt be aA;go_wp2_with fail;obtain ⟨E,aq⟩:=uS u (at_ - 2*a);refine wp_region_any kR<|aQ (S:=(Grow)) (V:=(Vs [is d,is d,is (.pointer (some ⟨d,1,none⟩)),is i,is (at_:Int),is d,is d,is (.pointer (some ⟨d,2,none⟩)),is (a:Int),is (.int .i64 (2*a:Nat)),is (.int .i64 ((at_:Int) -(2*a:Nat))),is (.int .i64 (at_ - 2*a:Nat)),is (.int .i64 E),is (.int .i64 E)])) [14,15,16,17,18,19,20,21,22,23,24,25,26,4] _ rfl kR bR (λ_ _=>Grow.trans) (dI tA0) ?_ ?_
  .refine aL<|pH 0 (.pointer (some d))<|pV 0 14<|pV 1 15<|pL 2 16 (λv g=>have g:(Grow) a3 v:=gD g;(((K.b (kb g)).live.a.cell 1).trans rfl:v.cell? ⟨d,1,none⟩=some (.pointer (some i)))) ?_;refine pH 1 (.int .i64 at_)<|pH 0 (.pointer (some d))<|pV 5 19<|pV 6 20<|pL 7 21 (λv g=>have g:(Grow) a3 v:=gD g;(((K.b (kb g)).live.a.cell 2).trans rfl:v.cell? ⟨d,2,none⟩=some (.int .i64 a))) ?_;refine pV 8 22<|sC (λ_ _ _ _ _ _ n _ _ _ M=>?_) ?_
   .have bm:_=_:=n 4 18 kR rfl;have bn:_=_:=n 9 23 kR rfl;go_simp;exact M _ _ bR (cS (by rw [wI0];push_cast;omega))
   refine sC (λ_ _ _ _ _ _ n _ _ _ M=>?_) ?_
   .have bo:_=_:=n 10 24 kR rfl;go_simp;exact M _ _ bR (cS oM)
   refine sC (λ_ v g _ _ _ n _ _ _ M=>?_) ?_
   .have bl:_=_:=n 3 17 kR rfl;have bp:_=_:=n 11 25 kR rfl;replace g:(Grow) a3 v:=gD g;go_simp;refine (jR (gp:=i) (R:=(N+1)) (P:=(N+1)) (C:=u) (pos:=(at_ - 2*a)) (z:=E) (w:=v) (K.b (kb g)).live.ad aq).mono ?_;rintro j bw ⟨rfl,b2⟩;exact M _ _ b2 rfl
   refine pV 12 26 ?_;exact aB
  .intro b1 bc g n;replace g:(Grow) a3 bc:=gD g;have b0:b1 (.tmp 4)=.int .i64 E:=n 13 4 rfl;simp only [zqq];rw [b0];clear n;have aR:=K.b (kb g);have aK:=aD.trans (LF.i (B:=k) (own:=own) (kc g));have aM:=aAB aW aI a2 (wO aq);have aE:=(FillI.mk aR aM aK);clear aR aK aM aq g K aD aI aW;go_wp2_with fail;go_loopw [4] (λp wr=>∃(b:Int) (o:Nat->Nat) (m:List (Nat×Nat)),p=.int .i64 b/\FillI s wr k own o d gk i a H (aG D) F N at_ I m b) (λp _=>((N:Int)+2 - intOf p).toNat)
   case atStart=>exact ⟨E,_,_,rfl,aE⟩
   case round=>
    clear aE;obtain ⟨b,o,m,rfl,e⟩:=hrel;obtain ⟨br,bs⟩:=e.W.ge;have a8:=e.tx.bw a5 a6;have aF:wr.cell? ⟨d,1,none⟩=some (.pointer (some i)):=(e.tx.live.a.cell 1).trans rfl;have a4:wr.cell? ⟨d,2,none⟩=some (.int .i64 a):=(e.tx.live.a.cell 2).trans rfl;have aN:=e.tx.live.a.lt;obtain ⟨au,b5⟩:=eqx (min (N:Int) ((at_:Int)+a));have aX:=b5;by_cases am:b<=au
    .have b9:=zBz am;obtain ⟨a0,an⟩:∃a0:Nat,b+1=(a0:Int):=⟨(b+1).toNat,by omega⟩;have W:b<=(N:Int):=oM;obtain ⟨a1,aT⟩:=uS m a0;obtain ⟨av,aw⟩:=xV (N:=N) aT an W;have bk:wrap64 (b+1)=(a0:Int):=(by rw [dU oM oM];exact an);have bi:=an;go_wp2_with fail;go_quiet ((with_reducible exact a8 _))
     rename_i nq
     have aS:=e.tx.b (kb (km bR nq));have aP:=jR (gp:=i) (R:=(N+1)) (P:=(N+1)) (C:=m) (pos:=a0) (z:=a1) (w:=(wr.drewN nq)) aS.live.ad aT;clear aS;go_wp2_with fail;refine aP.mono ?_;clear aP;rintro j w1 ⟨rfl,aJ⟩;have y:VB k wr w1:=kc ((km bR nq).trans aJ);have x:=e.tx.b y.1;have G:=e.lf.trans (LF.i (own:=o) y);clear y aJ a8 aF a4 aN;by_cases aU:a1 < 0
     .have aV:=zBz aU;have l:=(av oM);have aO:=x.bw a5 a6 0;clear av aw;go_wp2_with fail;refine aO.mono ?_;clear aO;rintro j J ⟨rfl,ar,rfl⟩;have Z:=x.b (kb (km bR ar));have ae:=G.trans (LF.i (B:=k) (own:=o) (kc (km bR ar)));generalize w1.drewN ar=J at Z ae⊢;obtain ⟨c,a7⟩:∃c:Int,((N+1:Nat):Int)=c:=⟨_,rfl⟩;rw [a7] at l;have bq:wrap64 (N+1)=c:=(by rw [bf];exact a7);have b7:=l.1;have b6:c<=((N+1:Nat):Int):=(by rcases l.2.2 with j |⟨az,ao,j⟩;omega;have:=e.W.le az ao;omega);have aY:IntKind.i64.wrap (c - b)=c - b:=zu;have a4:J.cell? ⟨d,2,none⟩=some (.int .i64 a):=(Z.live.a.cell 2).trans rfl;have b4:=Z.live.a.lt;by_cases Q:c - b<=(a:Int)
      .have af:=zn (c - b > (a:Int));have ag:¬(a:Int) < c - b:=oM;have ah:=rQ e.W l Q;go_wp2_with fail;go_roundw
       case rel=>exact ⟨c,o,m,by first | rfl |(congr 1 <;> omega),Z,ah,ae⟩
       case measure=>exact zr
      .have af:=zy (c - b > (a:Int));have ag:(a:Int) < c - b:=oM;obtain ⟨f,U,ak,al,_⟩:=jY (S':=Smp m) e.W l W a2 Q;have aZ:IntKind.i64.wrap (b+a)=(f:Int):=zu;have q:=qU (w:=J) (B:=k) (own:=o) (gl:=d) (gk:=gk) (gp:=i) (rate:=a) (mv:=H) (t:=D) (T:=F) (N:=N) (rs:=I) (pr:=m) (pos:=f) Z a5 a6 ak (λp Y j=>al ⟨p,Y,j⟩);unfold oZ at q;go_wp2_with fail;refine q.mono ?_;clear q;rintro j bb ⟨rfl,ax,A,ap,X,O⟩;have ai:FG (Smp A) a N at_ (f:Int):=(by obtain ⟨ay,b8,_,_,aj⟩:=jY (S':=Smp A) e.W l W a2 oM;have:ay=f:=(zj U);subst this;exact aj X);have aa:=(ae.trans O);have ab:=(show b < (f:Int) by have:=U;omega);clear X O;go_wp2_with fail;go_roundw
       case rel=>exact ⟨(f:Int),ax,A,rfl,ap,ai,aa⟩
       case measure=>simp [intOf];have:=ab;omega
     .have aV:=zBy aU;have l:=(aw oM);clear av aw;obtain ⟨c,a7⟩:∃c:Int,a1=c:=⟨_,rfl⟩;rw [a7] at l aV⊢;have L:=x;have a9:=G;clear x G;generalize w1=J at L a9⊢;have b7:=l.1;have b6:c<=((N+1:Nat):Int):=(by rcases l.2.2 with j |⟨az,ao,j⟩;omega;have:=e.W.le az ao;omega);have aY:IntKind.i64.wrap (c - b)=c - b:=zu;have a4:J.cell? ⟨d,2,none⟩=some (.int .i64 a):=(L.live.a.cell 2).trans rfl;have b4:=L.live.a.lt;by_cases Q:c - b<=(a:Int)
      .have af:=zn (c - b > (a:Int));have ag:¬(a:Int) < c - b:=oM;have ah:=rQ e.W l Q;go_wp2_with fail;go_roundw
       case rel=>exact ⟨c,o,m,by first | rfl |(congr 1 <;> omega),L,ah,a9⟩
       case measure=>exact zr
      .have af:=zy (c - b > (a:Int));have ag:(a:Int) < c - b:=oM;obtain ⟨f,U,ak,al,_⟩:=jY (S':=Smp m) e.W l W a2 Q;have aZ:IntKind.i64.wrap (b+a)=(f:Int):=zu;have q:=qU (w:=J) (B:=k) (own:=o) (gl:=d) (gk:=gk) (gp:=i) (rate:=a) (mv:=H) (t:=D) (T:=F) (N:=N) (rs:=I) (pr:=m) (pos:=f) L a5 a6 ak (λp Y j=>al ⟨p,Y,j⟩);unfold oZ at q;go_wp2_with fail;refine q.mono ?_;clear q;rintro j bb ⟨rfl,ax,A,ap,X,O⟩;have ai:FG (Smp A) a N at_ (f:Int):=(by obtain ⟨ay,b8,_,_,aj⟩:=jY (S':=Smp A) e.W l W a2 oM;have:ay=f:=(zj U);subst this;exact aj X);have aa:=(a9.trans O);have ab:=(show b < (f:Int) by have:=U;omega);clear X O;go_wp2_with fail;go_roundw
       case rel=>exact ⟨(f:Int),ax,A,rfl,ap,ai,aa⟩
       case measure=>simp [intOf];have:=ab;omega
    .have b9:=zBy am;have b3:=aEV e.W (by rw [aX];exact am);go_wp2_with fail;go_quiet ((with_reducible exact a8 _))
     rename_i nq
     have y:VB k wr (wr.drewN nq):=kc (km bR nq);have x:=e.tx.b y.1;have G:=e.lf.trans (LF.i (own:=o) y);clear y a8 aF a4 aN;go_wp2_with fail;go_end0;exact ⟨rfl,o,m,x,e.W.zero,b3,G⟩
 .have aC:=aBI (gp:=i) (R:=(N+1)) (P:=(N+1)) (pr:=u) (w:=s) 0 aA.live.ad (λp Y j=>aH ⟨p,Y,j⟩);go_wp2_with fail;refine aC.mono ?_;clear aC;rintro j bj ⟨rfl,ad⟩;have bh:=aA.b (kb ad);have q:=qU (w:=bj) (B:=k) (own:=own) (gl:=d) (gk:=gk) (gp:=i) (rate:=a) (mv:=H) (t:=D) (T:=F) (N:=N) (rs:=I) (pr:=u) (pos:=0) bh a5 a6 (zAp _) (λp Y j=>aH ⟨p,Y,j⟩);unfold oZ at q;have bd:=(LF.i (B:=k) (own:=own) (kc ad));clear ad bh be aA;go_wp2_with fail;refine q.mono ?_;clear q;rintro j a3 ⟨rfl,bu,ba,x,bg,G⟩;have K:=x;have aD:=(bd.trans G);have aI:∀f,Smp ba f↔Smp u f∨f=0:=λf=>(bg f).trans Or.comm;clear x bg G bd;go_wp2_with fail;obtain ⟨E,aq⟩:=uS ba (at_ - 2*a);refine wp_region_any kR<|aQ (S:=(Grow)) (V:=(Vs [is d,is d,is (.pointer (some ⟨d,1,none⟩)),is i,is (at_:Int),is d,is d,is (.pointer (some ⟨d,2,none⟩)),is (a:Int),is (.int .i64 (2*a:Nat)),is (.int .i64 ((at_:Int) -(2*a:Nat))),is (.int .i64 (at_ - 2*a:Nat)),is (.int .i64 E),is (.int .i64 E)])) [14,15,16,17,18,19,20,21,22,23,24,25,26,4] _ rfl kR bR (λ_ _=>Grow.trans) (dI tA0) ?_ ?_
  .refine aL<|pH 0 (.pointer (some d))<|pV 0 14<|pV 1 15<|pL 2 16 (λv g=>have g:(Grow) a3 v:=gD g;(((K.b (kb g)).live.a.cell 1).trans rfl:v.cell? ⟨d,1,none⟩=some (.pointer (some i)))) ?_;refine pH 1 (.int .i64 at_)<|pH 0 (.pointer (some d))<|pV 5 19<|pV 6 20<|pL 7 21 (λv g=>have g:(Grow) a3 v:=gD g;(((K.b (kb g)).live.a.cell 2).trans rfl:v.cell? ⟨d,2,none⟩=some (.int .i64 a))) ?_;refine pV 8 22<|sC (λ_ _ _ _ _ _ n _ _ _ M=>?_) ?_
   .have bm:_=_:=n 4 18 kR rfl;have bn:_=_:=n 9 23 kR rfl;go_simp;exact M _ _ bR (cS (by rw [wI0];push_cast;omega))
   refine sC (λ_ _ _ _ _ _ n _ _ _ M=>?_) ?_
   .have bo:_=_:=n 10 24 kR rfl;go_simp;exact M _ _ bR (cS oM)
   refine sC (λ_ v g _ _ _ n _ _ _ M=>?_) ?_
   .have bl:_=_:=n 3 17 kR rfl;have bp:_=_:=n 11 25 kR rfl;replace g:(Grow) a3 v:=gD g;go_simp;refine (jR (gp:=i) (R:=(N+1)) (P:=(N+1)) (C:=ba) (pos:=(at_ - 2*a)) (z:=E) (w:=v) (K.b (kb g)).live.ad aq).mono ?_;rintro j bw ⟨rfl,b2⟩;exact M _ _ b2 rfl
   refine pV 12 26 ?_;exact aB
  .intro b1 bc g n;replace g:(Grow) a3 bc:=gD g;have b0:b1 (.tmp 4)=.int .i64 E:=n 13 4 rfl;simp only [zqq];rw [b0];clear n;have aR:=K.b (kb g);have aK:=aD.trans (LF.i (B:=k) (own:=bu) (kc g));have aM:=aAB aW aI a2 (wO aq);have aE:=(FillI.mk aR aM aK);clear aR aK aM aq g K aD aI aW;go_wp2_with fail;go_loopw [4] (λp wr=>∃(b:Int) (o:Nat->Nat) (m:List (Nat×Nat)),p=.int .i64 b/\FillI s wr k own o d gk i a H (aG D) F N at_ I m b) (λp _=>((N:Int)+2 - intOf p).toNat)
   case atStart=>exact ⟨E,_,_,rfl,aE⟩
   case round=>
    clear aE;obtain ⟨b,o,m,rfl,e⟩:=hrel;obtain ⟨br,bs⟩:=e.W.ge;have a8:=e.tx.bw a5 a6;have aF:wr.cell? ⟨d,1,none⟩=some (.pointer (some i)):=(e.tx.live.a.cell 1).trans rfl;have a4:wr.cell? ⟨d,2,none⟩=some (.int .i64 a):=(e.tx.live.a.cell 2).trans rfl;have aN:=e.tx.live.a.lt;obtain ⟨au,b5⟩:=eqx (min (N:Int) ((at_:Int)+a));have aX:=b5;by_cases am:b<=au
    .have b9:=zBz am;obtain ⟨a0,an⟩:∃a0:Nat,b+1=(a0:Int):=⟨(b+1).toNat,by omega⟩;have W:b<=(N:Int):=oM;obtain ⟨a1,aT⟩:=uS m a0;obtain ⟨av,aw⟩:=xV (N:=N) aT an W;have bk:wrap64 (b+1)=(a0:Int):=(by rw [dU oM oM];exact an);have bi:=an;go_wp2_with fail;go_quiet ((with_reducible exact a8 _))
     rename_i nq
     have aS:=e.tx.b (kb (km bR nq));have aP:=jR (gp:=i) (R:=(N+1)) (P:=(N+1)) (C:=m) (pos:=a0) (z:=a1) (w:=(wr.drewN nq)) aS.live.ad aT;clear aS;go_wp2_with fail;refine aP.mono ?_;clear aP;rintro j w1 ⟨rfl,aJ⟩;have y:VB k wr w1:=kc ((km bR nq).trans aJ);have x:=e.tx.b y.1;have G:=e.lf.trans (LF.i (own:=o) y);clear y aJ a8 aF a4 aN;by_cases aU:a1 < 0
     .have aV:=zBz aU;have l:=(av oM);have aO:=x.bw a5 a6 0;clear av aw;go_wp2_with fail;refine aO.mono ?_;clear aO;rintro j J ⟨rfl,ar,rfl⟩;have Z:=x.b (kb (km bR ar));have ae:=G.trans (LF.i (B:=k) (own:=o) (kc (km bR ar)));generalize w1.drewN ar=J at Z ae⊢;obtain ⟨c,a7⟩:∃c:Int,((N+1:Nat):Int)=c:=⟨_,rfl⟩;rw [a7] at l;have bq:wrap64 (N+1)=c:=(by rw [bf];exact a7);have b7:=l.1;have b6:c<=((N+1:Nat):Int):=(by rcases l.2.2 with j |⟨az,ao,j⟩;omega;have:=e.W.le az ao;omega);have aY:IntKind.i64.wrap (c - b)=c - b:=zu;have a4:J.cell? ⟨d,2,none⟩=some (.int .i64 a):=(Z.live.a.cell 2).trans rfl;have b4:=Z.live.a.lt;by_cases Q:c - b<=(a:Int)
      .have af:=zn (c - b > (a:Int));have ag:¬(a:Int) < c - b:=oM;have ah:=rQ e.W l Q;go_wp2_with fail;go_roundw
       case rel=>exact ⟨c,o,m,by first | rfl |(congr 1 <;> omega),Z,ah,ae⟩
       case measure=>exact zr
      .have af:=zy (c - b > (a:Int));have ag:(a:Int) < c - b:=oM;obtain ⟨f,U,ak,al,_⟩:=jY (S':=Smp m) e.W l W a2 Q;have aZ:IntKind.i64.wrap (b+a)=(f:Int):=zu;have q:=qU (w:=J) (B:=k) (own:=o) (gl:=d) (gk:=gk) (gp:=i) (rate:=a) (mv:=H) (t:=D) (T:=F) (N:=N) (rs:=I) (pr:=m) (pos:=f) Z a5 a6 ak (λp Y j=>al ⟨p,Y,j⟩);unfold oZ at q;go_wp2_with fail;refine q.mono ?_;clear q;rintro j bb ⟨rfl,ax,A,ap,X,O⟩;have ai:FG (Smp A) a N at_ (f:Int):=(by obtain ⟨ay,b8,_,_,aj⟩:=jY (S':=Smp A) e.W l W a2 oM;have:ay=f:=(zj U);subst this;exact aj X);have aa:=(ae.trans O);have ab:=(show b < (f:Int) by have:=U;omega);clear X O;go_wp2_with fail;go_roundw
       case rel=>exact ⟨(f:Int),ax,A,rfl,ap,ai,aa⟩
       case measure=>simp [intOf];have:=ab;omega
     .have aV:=zBy aU;have l:=(aw oM);clear av aw;obtain ⟨c,a7⟩:∃c:Int,a1=c:=⟨_,rfl⟩;rw [a7] at l aV⊢;have L:=x;have a9:=G;clear x G;generalize w1=J at L a9⊢;have b7:=l.1;have b6:c<=((N+1:Nat):Int):=(by rcases l.2.2 with j |⟨az,ao,j⟩;omega;have:=e.W.le az ao;omega);have aY:IntKind.i64.wrap (c - b)=c - b:=zu;have a4:J.cell? ⟨d,2,none⟩=some (.int .i64 a):=(L.live.a.cell 2).trans rfl;have b4:=L.live.a.lt;by_cases Q:c - b<=(a:Int)
      .have af:=zn (c - b > (a:Int));have ag:¬(a:Int) < c - b:=oM;have ah:=rQ e.W l Q;go_wp2_with fail;go_roundw
       case rel=>exact ⟨c,o,m,by first | rfl |(congr 1 <;> omega),L,ah,a9⟩
       case measure=>exact zr
      .have af:=zy (c - b > (a:Int));have ag:(a:Int) < c - b:=oM;obtain ⟨f,U,ak,al,_⟩:=jY (S':=Smp m) e.W l W a2 Q;have aZ:IntKind.i64.wrap (b+a)=(f:Int):=zu;have q:=qU (w:=J) (B:=k) (own:=o) (gl:=d) (gk:=gk) (gp:=i) (rate:=a) (mv:=H) (t:=D) (T:=F) (N:=N) (rs:=I) (pr:=m) (pos:=f) L a5 a6 ak (λp Y j=>al ⟨p,Y,j⟩);unfold oZ at q;go_wp2_with fail;refine q.mono ?_;clear q;rintro j bb ⟨rfl,ax,A,ap,X,O⟩;have ai:FG (Smp A) a N at_ (f:Int):=(by obtain ⟨ay,b8,_,_,aj⟩:=jY (S':=Smp A) e.W l W a2 oM;have:ay=f:=(zj U);subst this;exact aj X);have aa:=(a9.trans O);have ab:=(show b < (f:Int) by have:=U;omega);clear X O;go_wp2_with fail;go_roundw
       case rel=>exact ⟨(f:Int),ax,A,rfl,ap,ai,aa⟩
       case measure=>simp [intOf];have:=ab;omega
    .have b9:=zBy am;have b3:=aEV e.W (by rw [aX];exact am);go_wp2_with fail;go_quiet ((with_reducible exact a8 _))
     rename_i nq
     have y:VB k wr (wr.drewN nq):=kc (km bR nq);have x:=e.tx.b y.1;have G:=e.lf.trans (LF.i (own:=o) y);clear y a8 aF a4 aN;go_wp2_with fail;go_end0;exact ⟨rfl,o,m,x,e.W.zero,b3,G⟩
section
def aKe (b) {a} (c) (d:a<=b.length):aG (aT b a c)=aT (aG b) a (c.toNat+1):=by
 unfold aG dQ aT;rw [zAz,zEJ,zDw,zEb,zDi (by simpa using d),zDC (by simpa using d)];simp
def aKf (b) {a} (c:a < b.length):aG (aK b a)=aK (aG b) a:=by
 unfold aG dQ aK;rw [zAz,zDw,zEb,zDi zt,zDC zt];simp
def zX {a} {b s c:Nat} (f:a[b]?=some c):(c::a.set b s).Perm (s::a):=by
 obtain ⟨d,e⟩:=zAc.1 f;have g:a.set b s=a.take b++s::a.drop (b+1):=List.set_eq_take_append_cons_drop .. |>.trans (by rw [zBx d]);have i:a=a.take b++c::a.drop (b+1):=by
  conv=>lhs;rw [<-zAu b a]
  rw [zAx d,e]
 rw [g]
 conv=>rhs;rw [i]
 refine ((zFD).cons c).trans<|(List.Perm.swap s c _).trans ?_;exact ((zFD).symm.cons s)
section
variable {S S' : Nat -> Prop} {r N at_ : Nat}
def aGy (o:sX S r N) (t:S 0) (v:∀a,S a->a<=N) (x:1<=r) (w:at_<=N) (n:∀c,S' c↔∃a,S a/\c=sh at_ a):PreGap S' r (N+1) at_:=by
 have mk:∀a,S a->S' (sh at_ a):=λa d=>(n _).2 ⟨a,d,rfl⟩;have u:S' 0∨(at_=0/\S' 1):=by by_cases e:at_=0;right;have:=mk 0 t;unfold sh at this;rw [zBw oM] at this;exact ⟨e,this⟩;left;have:=mk 0 t;unfold sh at this;rw [zBx oM] at this;exact this
 refine ⟨λc l=>?_,λc l q g=>?_,λc l g=>?_⟩
 .obtain ⟨a,d,rfl⟩:=(n c).1 l;have:=v a d;unfold sh;split <;> omega
 by_cases i:S' c;obtain ⟨a,d,rfl⟩:=(n c).1 i;unfold sh at q g⊢;by_cases e:a < at_;rw [zBx e] at q g⊢;obtain ⟨b,j,k,m⟩:=o a d oM;have:=mk b j;unfold sh at this;rw [zBx oM] at this;exact ⟨b,this,k,m⟩;rw [zBw e] at q g⊢;obtain ⟨b,j,k,m⟩:=o a d oM;have:=mk b j;unfold sh at this;rw [zBw oM] at this;exact ⟨b+1,this,by omega,by omega⟩;have p:c=0:=l.resolve_left i;subst p;rcases u with f |⟨_,f⟩;exact absurd f i;exact ⟨1,f,by omega,by omega⟩;by_cases i:S' c;obtain ⟨a,d,rfl⟩:=(n c).1 i;unfold sh at g⊢;by_cases e:a < at_;rw [zBx e] at g⊢;obtain ⟨b,j,k,m⟩:=o a d oM;have:=mk b j;unfold sh at this;by_cases s:b < at_;rw [zBx s] at this;exact ⟨b,this,k,by omega⟩;rw [zBw s] at this;exact ⟨b+1,this,by omega,by omega⟩;rw [zBw e] at g⊢;obtain ⟨b,j,k,m⟩:=o a d oM;have:=mk b j;unfold sh at this;rw [zBw oM] at this;exact ⟨b+1,this,by omega,by omega⟩;have p:c=0:=l.resolve_left i;subst p;rcases u with f |⟨_,f⟩;exact absurd f i;exact ⟨1,f,by omega,by omega⟩
def aGz (m:sX S r (N+1)) (w:S 0) (B:∀a,S a->a<=N+1) (G:1<=r) (F:at_<=N) (q:∀d,S' d↔∃a,S a/\a≠at_/\d=ush at_ a):PreGap S' r N at_:=by
 have mk:∀a,S a->a≠at_->S' (ush at_ a):=λa c s=>(q _).2 ⟨a,c,s,rfl⟩;have v:∀a,S a->a < at_->S' a:=λa c x=>by have:=mk a c oM;unfold ush at this;rwa [zBx x] at this
 have o:∀a,S a->at_ < a->S' (a - 1):=λa c x=>by have:=mk a c oM;unfold ush at this;rwa [zBw oM] at this
 have z:¬S' 0->1<=N+1 - 0->0+r<=N+1->∃b,S' b/\0 < b/\b+1<=r:=λy _ j=>by
  have E:at_=0:=by by_cases g:at_=0;exact g;exact absurd (v 0 w oM) y
  obtain ⟨b,e,f,i⟩:=m 0 w j;have l:=o b e oM;by_cases g:b=1;subst g;exact absurd l y;exact ⟨b - 1,l,by omega,by omega⟩
 refine ⟨λd p=>?_,λd p u j=>?_,λd p j=>?_⟩
 .obtain ⟨a,c,s,rfl⟩:=(q d).1 p;have:=B a c;unfold ush;split <;> omega
 by_cases k:S' d;obtain ⟨a,c,s,rfl⟩:=(q d).1 k;unfold ush at u j⊢;by_cases g:a < at_;rw [zBx g] at u j⊢;obtain ⟨b,e,f,i⟩:=m a c oM;exact ⟨b,v b e oM,f,i⟩;rw [zBw g] at u j⊢;obtain ⟨b,e,f,i⟩:=m a c oM;exact ⟨b - 1,o b e oM,by omega,by omega⟩;have t:d=0:=p.resolve_left k;subst t;obtain ⟨b,f,i,l⟩:=z k oM oM;exact ⟨b,f,i,by omega⟩;by_cases k:S' d;obtain ⟨a,c,s,rfl⟩:=(q d).1 k;unfold ush at j⊢;by_cases g:a < at_;rw [zBx g] at j⊢;obtain ⟨b,e,f,i⟩:=m a c oM;rcases zDD b at_ with n | n | n;exact ⟨b,v b e n,f,by omega⟩;subst n;obtain ⟨A,C,l,D⟩:=m b e oM;exact ⟨A - 1,o A C l,by omega,by omega⟩;exact ⟨b - 1,o b e n,by omega,by omega⟩;rw [zBw g] at j⊢;obtain ⟨b,e,f,i⟩:=m a c oM;exact ⟨b - 1,o b e oM,by omega,by omega⟩;have t:d=0:=p.resolve_left k;subst t;obtain ⟨b,f,i,l⟩:=z k oM oM;exact ⟨b,f,i,by omega⟩
end
end
section
def LiveE (w:World) (B:Nat) (own:Nat->Nat) (gl:Nat) (t:List UInt8) (rate:Nat):Prop:=
 ∃gk d a c e b,TxM w B own gl gk d rate a (aG t) c t.length e b/\Smp b 0/\sX (Smp b) rate t.length/\0<=a/\a<=(t.length:Int)+1
def LiveE.b {w w' B own gl t rate} (c:LiveE w B own gl t rate) (f:Vis w w'):LiveE w' B own gl t rate:=by
 obtain ⟨gk,b,g,a,j,i,d,e⟩:=c;exact ⟨gk,b,g,a,j,i,d.b f,e⟩
def LiveE.q {w B own gl t rate} (b:LiveE w B own gl t rate):∀a,own a≠0->B<=a/\a < w.heap.size:=by
 obtain ⟨gk,e,g,d,j,i,c,f⟩:=b;exact c.live.q
def TxM.len {w B own gl gk g rate j t d a b k} (e:TxM w B own gl gk g rate j (aG t) d a b k) (i:t.length=a):(aH (aG t) b).length=a+1/\d.length=a+1/\b.length=a+1:=by
 have c:=e.aa.len;rw [aO,i] at c;have f:(aH (aG t) b).length=a+1:=by rw [bY,c]
 exact ⟨f,by rw [e.ag.length_eq,f],c⟩
def TxM.c6 {w B own gl gk m rate o j k i p d} (a:TxM w B own gl gk m rate o j k i p d):∀b∈d,∀c∈d,b.2=c.2->b=c:=λb f c g l=>by
 have n:=a.right b f;have e:=a.right c g;rw [<-l] at e;exact a.live.perm.inj f g (zC a.aa n e)
def qK {c a g b} (d:IsSuf c a) (e:EndOk c g) (n:0 < b) (p:b<=g):cR (aH c a) (c.getD (b - 1) 0) (ro a b)=ro a (b - 1)/\(aH c a)[ro a b]?=some (c.getD (b - 1) 0):=by
 have q:=d.len;have o:=e.len;have l:b∈a:=d.mem oM;have m:b - 1∈a:=d.mem oM;have f:ro a b < a.length:=zDk.2 l;have k:ro a (b - 1) < a.length:=zDk.2 m;have i:a[ro a b]=b - 1+1:=by rw [zFl];omega
 have j:a[ro a (b - 1)]=b - 1:=zFl _;refine ⟨lf d e f k i j,?_⟩;have:=uT e f i oM;rw [zAa (by rw [bY];exact f),this]
def aD1 (w:World) (B:Nat) (own:Nat->Nat) (gl:Nat) (t:List UInt8) (rate:Nat) (a:Ending) (w':World):Prop:=a=.returned (.int .i64 0)/\∃own',LiveE w' B own' gl t rate/\LF B w w' own own'
def aFL {w B own gl t rate} (a j) (bL:LiveE w B own gl t rate) (bV:t.length<=894) (x:a<=t.length) (bv:1<=rate) (c2:rate<=64):
 Calls prog 49 #[gl,(a:Int),.int .u8 j.toNat] w (aD1 w B own gl (aT t a j) rate):=by
 obtain ⟨gk,H,cl,M,i,A,p,ax,am,_⟩:=bL;obtain ⟨o,Q⟩:=eqx t.length;have a3:=Q;rw [Q] at p am bV x;obtain ⟨n,ba,aw⟩:=p.len Q;have y:=fA t;rw [Q] at y;obtain ⟨b,bz⟩:=eqx (j.toNat+1);have ay:b < 257:=zj j.toNat_lt
 have c7:0 < b:=oM;obtain ⟨F,u⟩:=eqx (aG t);have bO:aG (aT t a j)=aT F a b:=by rw [aKe t j oM,u,bz]
 have ah:=y.len;have b9:∀c∈F,c < 257:=by rw [<-u];exact eX t
 rw [u] at y n ah;obtain ⟨f,a4⟩:=eqx (ro i a);have z:=p.aa;rw [u] at z;have a7:∀e,e<=o->e∈i:=λe cj=>z.mem oM;have av:i[f]?=some a:=by rw [<-a4];exact cE (a7 a x)
 have bn:f < o+1:=by rw [<-aw];exact (zAc.1 av).1
 obtain ⟨K,a9⟩:=aLb z y (s:=b) x c7;have a8:i.Nodup:=z.nodup;have au:i.Perm (List.range (o+1)):=by have:=z.perm;rwa [ah] at this
 obtain ⟨row,T⟩:=eqx (cR (aH F i) b (ro i a));rw [T] at K a9;have I:=aI2 a8 au y (s:=b) (row:=row) x K;obtain ⟨bF,ad,bG⟩:=aKB a8 (at_:=a) (row:=row) K;obtain ⟨a0,b8⟩:=eqx (aT (i.map (sh a)) row a);rw [b8] at a9 I bF ad bG;rw [a4] at T I;obtain ⟨E,r⟩:=eqx (aH F i);rw [r] at T I n;obtain ⟨ac,ar⟩:=eqx (bS F a);rw [ar] at I;have a2:E[f]?=some ac:=by rw [<-r,<-ar];unfold aH;rw [zAf,av];rfl
 have P:∀c∈E,c < 257:=by rw [<-r];exact dR b9
 have bX:ac < 257:=P ac (zAd a2);rw [aw] at K;have J:=p.live;rw [u,r] at J;have L:=p.ag;rw [u,r] at L;have bA:∀c∈E.set f b,c < 257:=λc l=>by rcases zER l with N | N;exact P c N;omega
 have c5:(E.set f b)[f]?=some b:=by rw [zDq oM]
 have bW:uL (E.set f b) M b f=row:=by rw [<-T];unfold uL cR;rw [L.countP_eq,List.take_set_of_le nL]
 have c8:(M++ [b]).Perm (aH (aT F a b) a0):=by rw [I];refine (zGb).trans<|((L.cons b).trans (zX a2).symm).trans ?_;exact (fU _ _ _).symm
 have c0:∀c∈(A.map λc=>(inR c.1 row,c.2)).map (λc=>(c.1,inR c.2 a)),a0[c.1]?=some c.2:=λc l=>by
  rw [zCh] at l;obtain ⟨m,U,rfl⟩:=zAy.1 l;have N:=p.right m U;have aW:=zAd N;have O:=ad m.2 aW;have a1:sh a m.2=inR m.2 a:=by unfold sh inR;split <;> split <;> omega
  rw [gR a8 N] at O;show a0[inR m.1 row]?=some (inR m.2 a);rw [<-O,<-a1];refine cE (a9.mem.2 ?_);have:=au.mem_iff.1 aW;rw [zCj] at this;unfold sh;split <;> omega
 have bZ:∀e,Smp ((A.map λc=>(inR c.1 row,c.2)).map (λc=>(c.1,inR c.2 a))) e↔∃b,Smp A b/\e=sh a b:=λe=>by
  have a1:∀aI,sh a aI=inR aI a:=λaI=>by unfold sh inR;split <;> split <;> omega
  unfold Smp;rw [zCh];constructor;rintro ⟨c,l,rfl⟩;obtain ⟨m,U,rfl⟩:=zAy.1 l;exact ⟨m.2,⟨m,U,rfl⟩,(a1 _).symm⟩;rintro ⟨_,⟨m,U,rfl⟩,rfl⟩;exact ⟨_,zAy.2 ⟨m,U,rfl⟩,(a1 _).symm⟩
 have bt:∀b,Smp A b->b<=o:=λb ⟨c,l,d⟩=>by have:=(J.perm.2.2 c l).2;omega
 have bY:=λ(bK:Nat->Prop) (bN:∀e,bK e↔∃b,Smp A b/\e=sh a b)=>aGy am ax bt bv x bN;have c1:A≠ []:=λd=>by obtain ⟨c,l,_⟩:=ax;rw [d] at l;cases l
 obtain ⟨G,v⟩:∃G:Int,(if a=0 then -1 else ((ro i (a - 1):Nat):Int))=G:=⟨_,rfl⟩;have bc:∀D,VB B w D∨True->LiveM D B own gl gk H rate 0 (o+1) (o+1) E M A->Calls prog 90 #[gl,(a:Int),(f:Int)] D λd w'=>d=.returned (.int .i64 G)/\VB B D w':=λD _ bM=>by by_cases k:a=0;rw [zBx k] at v;subst k v;refine (qT f D gl).mono ?_;rintro d w' ⟨rfl,rfl⟩;exact ⟨rfl,VisK.refl _ _⟩;rw [zBw k] at v;obtain ⟨b1,b2⟩:=qK z y oM x;rw [r,a4] at b1 b2;have:=tR a bM oM b2 P oM oM;rw [mZ L,b1,v] at this;exact this
 have bP:inI G (row:Int)=aOf a0 a:=by
  rw [<-v];unfold aOf;by_cases k:a=0
  .rw [zBx k,zBx k,aH0]
  .rw [zBw k,zBw k,zH];have O:=ad (a - 1) (a7 _ oM);rw [show sh a (a - 1)=a - 1 by unfold sh;rw [zBx oM]] at O;rw [O]
 have bQ:-1000000<=G/\G<=1000000:=by rw [<-v];by_cases k:a=0;rw [zBx k];omega;rw [zBw k];have ck:ro i (a - 1) < i.length:=zDk.2 (a7 (a - 1) oM);omega
 have bR:(a:Int)<=o:=oM;have bp:=cD (J.g L).ai n oM;have be:=J.a;have c3:=p.right;have c6:=p.aa;unfold aD1;clear Q ad bG am ax z a7 y au a8 T b8 ar aw ah bt a4 v;go_enter func49,ntmps49;go_wp2_with fail;refine bp.mono ?_;clear bp;rintro d w1 ⟨rfl,rfl⟩;go_wp2_with fail;refine (aEa be oM bR).mono ?_;rintro d w1 ⟨rfl,rfl⟩;obtain ⟨ao,ai⟩:=J.ah 0;clear be J p;generalize w.setCell ⟨gl,3,none⟩ (.int .i64 0)=w1 at ao ai⊢;go_wp2_with fail;refine (rZ j w1).mono ?_;rintro d ae ⟨rfl,bd⟩;rw [bz];have aB:VB B w1 ae:=kc bd;have ap:=ao.b aB.1;have aK:=(ai.trans (LF.i (own:=own) aB));clear bd aB;have bx:Calls prog 51 #[gl,(a:Int)] ae λd w'=>d=.returned (.int .i64 f)/\VB B ae w':=by have bT:=ap.g L;have:=gP B gl gk H rate ae (by rw [a3,u];rw [r];exact bT) c3 c6 (by rw [a3];omega) av;exact this
 go_wp2_with fail;refine bx.mono ?_;clear bx;rintro d cn ⟨rfl,aC⟩;have X:=(ap.b aC.1);have aL:=(aK.trans (LF.i (own:=own) aC));clear aC ap aK ao ai;obtain ⟨ci,ch,bk,bC⟩:=X.gw;have C:=X.a.cell 0;have V:=bk.cell 0;have bj:=eR f ac bC (by rw [n];exact bn) (by have aX:=a2;rw [zAa (by rw [n];exact bn)] at aX;injection aX) P (by rw [n];omega);clear bk bC;go_wp2_with fail;refine bj.mono ?_;clear bj;rintro d cf ⟨rfl,aD⟩;have af:=(X.b aD.1);have aM:=(aL.trans (LF.i (own:=own) aD));clear aD C V X aL;have bb:=bc cf (.inr trivial) af;clear bc;go_wp2_with fail;refine bb.mono ?_;clear bb;rintro d D ⟨rfl,aE⟩;have Y:=(af.b aE.1);have aN:=(aM.trans (LF.i (own:=own) aE));clear aE af aM;have C:=Y.a.cell 0;have bf:=lQ Y.walk a2 ay P (by rw [n];omega);go_wp2_with fail;refine bf.mono ?_;clear bf;rintro d co ⟨rfl,own1,aY,b3⟩;obtain ⟨aq,R⟩:=Y.I aY b3;have W:=(aN.trans R);clear R aY b3 C Y aN;have az:=zN aq c5 bA (by rw [zAt,n];omega) (by rw [ba];omega);rw [bW] at az;go_wp2_with fail;refine az.mono ?_;clear az;rintro d cp ⟨rfl,aF⟩;have Z:=(aq.b aF.1);have aO:=(W.trans (LF.i (own:=own1) aF));clear aF aq W;have C:=Z.a.cell 0;have bu:=iL row Z.walk bX (by rw [zAt,n];exact K) bA (by rw [zAt,n];omega);go_wp2_with fail;refine bu.mono ?_;clear bu;rintro d cq ⟨rfl,ca,aZ,b4⟩;obtain ⟨a5,bh⟩:=Z.I aZ b4;have aP:=(aO.trans bh);clear bh aZ b4 C Z aO;have C:=a5.a.cell 0;have bg:=pD a5.walk ay (by rw [ba];omega);go_wp2_with fail;refine bg.mono ?_;clear bg;rintro d bH ⟨rfl,b0,b5⟩;obtain ⟨a6,bi⟩:=a5.I b0 b5;have aQ:=(aP.trans bi);clear bi b0 b5 C a5 aP;have V:bH.cell? ⟨gl,1,none⟩=some (.pointer (some H)):=(a6.a.cell 1).trans rfl;have bw:=aBJ a6.perm K oM oM;go_wp2_with fail;refine bw.mono ?_;clear bw;rintro d aJ ⟨rfl,b6,bl⟩;obtain ⟨S,aj⟩:=a6.S (b6.mono λj _ ag=>.inl ag) bl;obtain ⟨cb,bq⟩:=eqx (eD ca bH.heap.size aJ.heap.size 1);rw [bq] at S aj;have aR:=(aQ.trans aj);clear aj b6 bl V a6 aQ bq;have V:aJ.cell? ⟨gl,1,none⟩=some (.pointer (some H)):=(S.a.cell 1).trans rfl;have bs:=aBL a S.perm oM oM oM;go_wp2_with fail;refine bs.mono ?_;clear bs;rintro d bI ⟨rfl,b7,bm⟩;obtain ⟨bo,ak⟩:=S.S (b7.mono λj _ ag=>.inl ag) bm;obtain ⟨cm,br⟩:=eqx (eD cb aJ.heap.size bI.heap.size 1);rw [br] at bo ak;have bJ:=(aR.trans ak);clear ak b7 bm V S aR br;have an:=zO (row:Int) bI bQ;rw [bP] at an;go_wp2_with fail;refine an.mono ?_;clear an;rintro d cr ⟨rfl,rfl⟩;have aa:=qP ⟨a9,by rw [I];exact bo,c8,c0,λe=>Iff.rfl,λ_ d=>c1 (by simpa using d),bJ,⟨zFF 0,by omega⟩⟩ oM oM (aNc b9 ay);rw [bF] at aa;unfold vH at aa;go_wp2_with fail;refine aa.mono ?_;clear aa;rintro d cg ⟨rfl,cc,bD,aV,bE,q⟩;have ab:(aT t a j).length=o+1:=by rw [cM _ _ (by rw [a3];exact x),a3]
 have bB:TxM cg B cc gl gk H rate bD (aG (aT t a j)) (M++ [b]) (o+1) aV bE:=by rw [bO];exact ⟨q.P.B,q.live,q.ag,q.right⟩
 have al:=aFO bB ab oM oM bv c2 (bY (Smp bE) λe=>(q.ci e).trans (bZ e));unfold vT at al;have aS:=q.lf;have aU:=q.bA;clear bB q;go_wp2_with fail;refine al.mono ?_;clear al;rintro d cs ⟨rfl,cd,ce,c9,c4,bU,R⟩;have W:=(aS.trans R);clear R aS;go_wp2_with fail;go_ret;exact ⟨rfl,cd,⟨gk,H,bD,M++ [b],aV,ce,by rw [ab];exact c9,c4,by rw [ab];exact bU,aU.1,by rw [ab];have:=aU.2;omega⟩,W⟩
def WaveS.low {w B B' own e} {c:Nat->Value} {b:Nat->List Nat} {g i} (a:WaveS w B own e c b g i) (hB:B'<=B):WaveS w B' own e c b g i:=by
 refine ⟨a.a,⟨zAk hB a.base.1,a.base.2⟩,λlv n=>?_,λd f=>⟨zAk hB (a.q d f).1,(a.q d f).2⟩⟩;obtain ⟨j,k,l,m⟩:=a.rows lv n;exact ⟨j,cG k hB,l,m⟩
def WalkE.low {w B B' own gk a b} (f:WalkE w B own gk a b) (hB:B'<=B):WalkE w B' own gk a b:=by
 obtain ⟨e,d,g,i,⟨c,m,j⟩,k,l⟩:=f;exact ⟨e,d,g,i,⟨c,m,j.low hB⟩,k,l⟩
def aKX (own:Nat->Nat) (b gk a:Nat):Nat:=if a=b then 2 else if a=gk then 2 else own a
def aFf {m k} (g) {B c w} (s:Rd w B 1 m k (c.map sv)) (hB:B<=w.heap.size) (y:k<=896) (q:∀D∈c,D < 257):
 Calls prog 77 #[.slice m k g] w λi w'=>∃gk own,i=.returned (.pointer (some ⟨gk,0,none⟩))/\w.heap.size<=gk/\WalkE w' w.heap.size own gk c c/\Below w.heap.size w w':=by
 go_enter func77,ntmps77;go_wp2_with fail;refine (aDv g s hB y q).mono ?_;rintro i w1 ⟨p,own,rfl,v,b⟩;go_wp2_with fail;refine (vD g (s.below (b.mono hB)) (zj b.size) oM q).mono ?_;rintro i l ⟨d,rfl,H,u,e⟩;have C:=v.b (kb e);have j:=b.trans (e.mono b.size);have x:=e.size;clear e;go_wp2_with fail;go_ret;have A:=C.b (w':=l.alloc (.cells #[p,d] 140)) ((Vis.refl _).alloc _);have r:=v.q;have J:=u.lt;have G:=b.size;have I:=x;have z:=A.aq (own':=aKX own d l.heap.size) (λa F E=>by
  have:=(r a oM).2;unfold aKX;rw [zBw oM,zBw oM]) (λa f=>by
  unfold aKX at f;by_cases n:a=d;subst n;exact ⟨by omega,by simp;omega⟩
  .rw [zBw n] at f;by_cases o:a=l.heap.size;subst o;exact ⟨by omega,by simp⟩
   .rw [zBw o] at f;have:=r a f;exact ⟨this.1,by simp;omega⟩)
 refine ⟨_,_,rfl,j.size,⟨p,d,kd _ _ _,?_,z,u.alloc _,?_⟩,j.alloc j.size _⟩
 .unfold aKX;rw [zBw oM,zBx rfl]
 .unfold aKX;rw [zBx rfl]
def aDx {e d} (f) {B t w} (m:Rd w B 1 e d (t.map bv)) (hB:B<=w.heap.size) (s:d<=895):
 Calls prog 42 #[.slice e d f] w λb w'=>∃gk a,IsSuf (aG t) a/\b=.returned (.pointer (some ⟨gk,0,none⟩))/\w.heap.size<=gk/\(∃own,WalkE w' w.heap.size own gk (aH (aG t) a) (aH (aG t) a))/\Below w.heap.size w w':=by
 go_enter func42,ntmps42;go_wp2_with fail;refine (qO f m hB oM).mono ?_;rintro b w1 ⟨a,q,j,n,rfl,g,c⟩;have i:=g.rd;clear g;go_wp2_with fail;refine (aFf j i nL oM (dR (eX t))).mono ?_;rintro b u ⟨gk,own,rfl,r,o,k⟩;have l:=c.trans (k.mono c.size);have p:=c.size;go_wp2_with fail;go_ret;exact ⟨gk,a,n,rfl,by omega,⟨own,o.low p⟩,l⟩
def LiveE.bz {w w' B own gl t rate f} (k:LiveE w B own gl t rate) (e:Keep f w w') (d:∀a,f a->own a=0):LiveE w' B own gl t rate:=by
 obtain ⟨gk,j,p,g,r,q,⟨l,b,m,n⟩,o⟩:=k;refine ⟨gk,j,p,g,r,q,⟨l,⟨e.d b.a λc=>?_,b.x,b.walk.m e λa c=>?_,b.perm.keep e λa c i=>?_⟩,m,n⟩,o⟩;have:=d _ c;have:=b.x;omega;have:=d a c;omega;have:=d a i;omega
def LiveE.low {w B B' own gl t rate} (d:LiveE w B own gl t rate) (hB:B'<=B):LiveE w B' own gl t rate:=by
 obtain ⟨gk,c,j,b,l,k,⟨e,a,f,g⟩,i⟩:=d;exact ⟨gk,c,j,b,l,k,⟨e,⟨a.a,a.x,a.walk.low hB,a.perm⟩,f,g⟩,i⟩
def LiveE.tp {w B own gl t rate} (b:LiveE w B own gl t rate) (j:t.length<=895):TpAt w B gl t rate:=by
 obtain ⟨gk,a,o,m,l,k,⟨c,d,e,f⟩,i,n⟩:=b;exact ⟨l,gk,a,k,c,d.g e,f,i,j⟩
open Classical in
noncomputable def ownL (own:Nat->Nat) (c b:Nat) (d e f:Value) (gl a:Nat):Nat:=if PF c b d e f a then 1 else if a=gl then 3 else own a
def PermAt.low {w B g f l m n k d c i b j e} (a:PermAt w B g f l m n k d c i b j e):PermAt w 0 g f l m n k d c i b j e:=
 ⟨a.a,cG a.u (zAp _),cG a.t (zAp _),a.V,cG a.F (zAp _),cG a.M (zAp _),a.apart,a.lt,⟨zAp _,zAp _⟩⟩
def aGv (a):(List.range a.length).map (λb=>(aF a b,aS a b))=a:=(xU a).symm
def aKt {d rate c b} (e:∃a,d[a]?=some b/\a < c) (i:b % rate=0):Smp (dE d rate c) b:=by
 obtain ⟨a,f,g⟩:=e;exact ⟨(a,b),(aKv _ _ _ _ _).2 ⟨g,by rw [zAb,f];rfl,i⟩,rfl⟩
def aKu {t c rate} (b:IsSuf (aG t) c) (q:1<=rate):sX (Smp (dE c rate (t.length+1))) rate t.length:=λl ⟨m,j,d⟩ o=>by
 obtain ⟨n,a⟩:=m;have g:=(aKv _ _ _ _ _).1 j;have e:a=l:=d;subst e;refine ⟨a+rate,aKt ?_ (by rw [Nat.add_mod_right];exact g.2.2),by omega,zAs _⟩;obtain ⟨k,i,f⟩:=b.row (p:=a+rate) (by rw [aO];omega);refine ⟨k,by rw [zAa i,f],?_⟩;have:=b.len;rw [aO] at this;omega
def aIZ {w wr:World} {v w2s u:Nat} {own:Nat->Nat} {gl gk e f rate k:Nat} {g i j:Value} {t:List UInt8} {c:List Nat} {o:List Bool} (L:t.length=k) (q:IsSuf (aG t) c) (P:1<=rate) (U:k<=895) (J:WalkE wr v own gk (aH (aG t) c) (aH (aG t) c)) (M:∀a,own a≠0->a < w2s) (T:gl=w2s) (R:w2s < u) (F:Bk wr gl 89 #[gk,e,(rate:Int),o0])
 (l:PermAt wr u e f g i j (.slice none 0 0) (k+1) (k+1) (List.range (dE c rate (k+1)).length) (dE c rate (k+1)) o []) (I:o.length=(dE c rate (k+1)).length) (Q:∀a∈o,a=true) (S:v<=w2s):∃own',LiveE wr v own' gl t rate:=by
 subst L;have y:∀a,PF e f g i j a->u<=a/\a < wr.heap.size:=λa b=>by refine ⟨l.cd b,?_⟩;rcases b with rfl | rfl | b | b | b;exact l.a.lt;exact l.V.lt;exact (l.u.lt _ b).2;exact (l.t.lt _ b).2;exact (l.F.lt _ b).2
 have p:∀a,PF e f g i j a->ownL own e f g i j gl a=1:=λa b=>by unfold ownL;rw [zBx b]
 have N:ownL own e f g i j gl gl=3:=by unfold ownL;rw [zBw (λd=>by have:=(y _ d).1;omega),zBx rfl]
 have O:∀a,a < w2s->ownL own e f g i j gl a=own a:=λa b=>by unfold ownL;rw [zBw (λd=>by have:=(y _ d).1;omega),zBw oM]
 have V:c.length=t.length+1:=by rw [q.len,aO]
 refine ⟨ownL own e f g i j gl,gk,e,0,_,c,dE c rate (t.length+1),⟨q,⟨F,N,J.aq (λa _ D=>O a (M a oM)) (λa r=>?_),⟨⟨f,g,i,j,.slice none 0 0,List.range (dE c rate (t.length+1)).length,dE c rate (t.length+1),o, [],?_,(aGv _).symm⟩,uD _ _ _,λz s=>?_⟩⟩,zFU _,zZ oM⟩,?_,aKu q P,by decide,by omega⟩;unfold ownL at r;by_cases A:PF e f g i j a;have:=y a A;exact ⟨by omega,this.2⟩;rw [zBw A] at r;by_cases C:a=gl;subst C;exact ⟨by omega,F.lt⟩;rw [zBw C] at r;exact J.q a r
 .have H:∀m,m < o.length->o[m]?=some true:=λm G=>by rw [zAa G];congr 1;exact Q _ (zBj G)
  refine ⟨l.low,p _ (.inl rfl),p _ (.inr (.inl rfl)),λa b=>p _ (.inr (.inr (.inl b))),λa b=>p _ (.inr (.inr (.inr (.inl b)))),λa b=>p _ (.inr (.inr (.inr (.inr b)))),λa b=>(by cases b),zDl,I,λm=>?_,List.nodup_nil,λm=>?_,by have:=aKw c rate (t.length+1);omega⟩
  .rw [zCj,<-I];constructor
   .intro d;exact (zAc.1 d).1
   exact H m
  .constructor
   .intro d;cases d
   .intro d;have x:=H m (zAc.1 d).1;rw [x] at d;cases d
 have x:=rA s;have D:=zZ (rs:=c) (rate:=rate) (n:=t.length+1) oM z s;have E:=q.lt (zAd D);rw [aO] at E;exact ⟨x.1,E⟩;obtain ⟨z,s,K⟩:=aIG (rate:=rate) q;exact ⟨z,s,K⟩
def vO (rate:Nat) {A0} {m0:Nat} (a7:Nat) {B:Nat} {ss t} {N:Nat} (aL:iV ss=t) (G:t.length=N) {w} (ap:Rd w B 1 A0 m0 (ss.map slV)) (au:∀a1∈ss,Rd w B 1 a1.A a1.n (a1.l.map bv)) (hB:B<=w.heap.size) (bh:m0<=1000000) (am:N<=895) (b3:1<=rate) (bj:rate<=64):
 Calls prog 15 #[(rate:Int),.slice A0 m0 a7] w λm w'=>∃gl own,m=.returned (.tuple #[.pointer (some ⟨gl,0,none⟩),o0])/\w.heap.size<=gl/\LiveE w' w.heap.size own gl t rate/\Below w.heap.size w w':=by
 have aM:=G;have ag:=oX a7 aL G ap au hB oM oM;have bl:¬((rate:Int) < 1):=oM;have bm:¬((rate:Int) > 64):=oM;clear ap au;go_enter func15,ntmps15;go_wp2_with fail;refine ag.mono ?_;clear ag;rintro m w1 ⟨b9,a8,rfl,ak,y⟩;have aN:=y;have S:=ak.rd;clear ak aN;go_wp2_with fail;refine (aDx a8 S nL am).mono ?_;rintro m e ⟨gk,c,D,rfl,aV,E,s⟩;have ac:=S.below s;have H:=y.trans (s.mono y.size);obtain ⟨bo,E⟩:=E;have aZ:=E.q;have az:=(E.low y.size);have ay:=(ac.mono s.size);clear E ac s S y aV;go_wp2_with fail;obtain ⟨i,O⟩:=eqx (N+1);have aY:(N:Int)+1=i:=oM;rw [aY];have x:=kd e 89 #[gk,.pointer none,(rate:Int),o0];have J:Below e.heap.size e (e.alloc (.cells #[gk,.pointer none,(rate:Int),o0] 89)):=bR.alloc nL _;obtain ⟨gl,v⟩:=eqx e.heap.size;rw [v] at x;rw [v];generalize e.alloc (.cells #[gk,.pointer none,(rate:Int),o0] 89)=w3 at x J⊢;refine (aFB i w3 oM).mono ?_;rintro m Q ⟨r,aa,rfl,b0,af⟩;have K:=x.below af x.lt;have aE:Q.cell? ⟨gl,1,none⟩=some (.pointer none):=(K.cell 1).trans rfl;have aG:=K.frozen 1;go_wp2_with fail;have ah:=(ke (λg=>g=gl) Q).setCell (p:=⟨gl,1,none⟩) (.inl rfl) (.pointer (some r));have L:=K.set 1 (.pointer (some r));have X:=b0.keep ah (λg t aD d k=>by
  subst d;have:=(aU k K).1;subst this;decide)
 have u:Below e.heap.size e (Q.setCell ⟨gl,1,none⟩ (.pointer (some r))):=(J.trans (af.mono J.size)).setCell (by rw [v];exact zAs _) _;have bf:=v;have ax:=(show e.heap.size < w3.heap.size by have:=x.lt;omega);have bc:e.heap.size<=w3.heap.size:=J.size;clear aE aG;generalize Q.setCell ⟨gl,1,none⟩ (.pointer (some r))=w5 at L X u⊢;have Y:=qN a8 (ay.below u) u.size oM;rw [O] at Y;clear ah;refine Y.mono ?_;clear Y;rintro m b8 ⟨b4,a5,a9,av,rfl,al,I⟩;obtain rfl:c=b4:=D.unique av;have aj:c.length=i:=by rw [D.len,aO,G,O]
 have a:LvInv e w3.heap.size w5.heap.size gl gk r aa i rate a5 a9 c 0 (.slice none 0 0) (.slice none 0 0) (.slice none 0 0) [] b8:=
  ⟨X.below I,rfl,λaB _ k=>(by cases k),al.own,L.below I L.lt,u.trans (I.mono u.size)⟩
 have f:=a;clear a al I av L X u;go_wp2_with fail;go_loopw [8,9,36] (λ_ _ a0 wr=>∃b:Nat,b<=i/\a0=.int .i64 b/\∃a2 a3 a4 F,LvInv e w3.heap.size w5.heap.size gl gk r aa i rate a5 a9 c b a2 a3 a4 F wr/\∀g∈F,g=true) (λ_ _ a0 _=>i -(intOf a0).toNat)
 case atStart=>exact ⟨0,by omega,rfl,_,_,_,_,f,λg k=>by cases k⟩
 case round=>
  clear f;obtain ⟨b,bg,rfl,a2,a3,a4,F,a,Z⟩:=hrel;by_cases M:b < i
  .have W:b < c.length:=(by rw [aj];exact M);obtain ⟨j,n⟩:∃j,c[b]?=some j:=⟨_,zAa W⟩;have b2:j < i:=(by have:=D.lt (zAd n);rw [aO,G,O] at this;exact this);have aT:c.getD b 0=j:=(by rw [zAb,n];rfl);have aq:=Rd.s a.row;obtain ⟨g,bn,bp,aJ,aP,P,aQ⟩:=aq.get M;rw [zAf,n] at P;injection P with P;subst P aJ;unfold sv at aQ;have ba:=a.a.cell 1;have aX:((j:Int)).tmod (rate:Int)=((j % rate:Nat):Int):=(by rw [zDA oM];simp);have aW:((j:Int))%(rate:Int)=(j % rate:Nat):=zs;obtain ⟨aw,an⟩:=eqx (j % rate);rw [an] at aX aW;have o:=aGm c rate b;rw [aT,an] at o;have f:=a;clear a aq W;by_cases ao:aw=0
   .subst ao;rw [zBx rfl] at o;go_wp2_with fail;have ad:=aFD f.perm (aEx (uD c rate b)) (λq U=>(rA (aEy (by simpa using U))).1) (λq U m=>by
     have ab:=rA (aEy (C:=dE c rate b) (by simpa using U));have aH:aS (dE c rate b) q=c.getD (aF (dE c rate b) q) 0:=ab.2;have bb:aF (dE c rate b) q < b:=ab.1;have W:b < c.length:=(by rw [aj];exact M);have aI:c[aF (dE c rate b) q]?=c[b]?:=(by rw [n,<-m,aH,zAb,zAa (show aF (dE c rate b) q < c.length by omega)];rfl);have:=(List.getElem?_inj (show aF (dE c rate b) q < c.length by omega) D.nodup).1 aI
     omega) M b2 f.len (by
      have:(dE c rate b).length<=b:=(by unfold dE;rw [zBc];exact zAk (zCw _ _) zs);omega) (by
      have:(dE c rate b).length<=b:=(by unfold dE;rw [zBc];exact zAk (zCw _ _) zs);simp;omega) (zk f.perm.a.lt f.perm.lo.1)
    refine ad.mono ?_;clear ad;rintro m bq ⟨rfl,V,b5,b6,b7,b1,aR,bd,be⟩;go_wp2_with fail;go_roundw
    case rel=>
     have a:=f;refine ⟨b+1,by omega,by go_num,b5,b6,b7,F++ [true],⟨?_,?_,?_,?_,?_,?_⟩,λg k=>by rcases zCp.1 k with R | R;exact Z g R;exact zDa.1 R⟩;rw [o];simpa [zDx] using b1
     .rw [o];simp [a.len]
     exact a.dj.cs aR (λaB T=>by injection T with T;subst T;exact aP);refine aC a.row λa6 aD ae z=>V.d z (λd=>?_);rcases d with d | d | d | d | d;subst d;exact Bk.ne z a.perm.a dC rfl;subst d;exact Bk.ne z a.perm.V dC rfl;exact bC a.perm.u z dC d.symm;have s:g=a6:=(by simpa [Value.ownBlock] using ae);subst s;exact a.dj _ rfl d;exact bC a.perm.F z dC d.symm;refine V.d a.a (λd=>?_);have:=a.perm.cd d;have:=x.lt;omega;exact a.below.trans (V.e a.below.size (λa6 ae d=>by have:=a.perm.cd d;omega))
    case measure=>exact zr
   .rw [zBw ao] at o;have bi:((aw:Int)==0)=false:=zt;go_wp2_with fail;go_roundw
    case rel=>have a:=f;exact ⟨b+1,by omega,by go_num,a2,a3,a4,F,⟨by rw [o];exact a.perm,by rw [o];exact a.len,a.dj,a.row,a.a,a.below⟩,Z⟩
    case measure=>exact zr
  .obtain rfl:i=b:=oM;have f:=a;clear a;go_wp2_with fail;go_ret2;have a:=f;have n:=a.perm;have ai:=a.len;rw [<-O] at n ai;obtain ⟨own',aK⟩:=aIZ (w:=w) (w2s:=e.heap.size) aM D b3 am (az.b (kb a.below)) (λg k=>(aZ g k).2) v.symm ax a.a n ai Z H.size;exact ⟨gl,own',rfl,by have:=H.size;have:=v;omega,aK,H.trans (a.below.mono H.size)⟩
end
def uV (aA rate a:Nat):Array Value:=#[.int .i64 aA,.int .i64 rate,.int .i64 a]
def xS {P:Program} {fn:Func} {a p b:Tmp} {ty:TypeId} (i:fn.results=#[.tmp a,.cell p ty,.tmp b]) (c:Array Value) (w:World) (e:Nat) (t:TypeId) (d:Array Value) (g:Nat×Nat) (f:TypeDesc)
 (m:c.getD p undef=.pointer (some e)) (k:w.heap[e]?=some (.cells d t g))
 (o:P.underlying ty=some f) (j:(match f with | .struct _ | .array _ _=>true | _=>false)=true) (l:(P.info? ty).map (·.size)=some d.size):
 (results fn c).run P w=.ok (.tuple #[c.getD a undef,.agg d,c.getD b undef]) w:=by
 have n:c[p]?.getD undef=.pointer (some e):=by simpa using m
 simp [results,i,n,asAddr,run_loadVar_row w e t ty d g f k o j l]
def aBj (w:World) (t:List UInt8) (rate aA:Nat) (a:Ending) (w':World):Prop:=
 ∃gl,a=.returned (.tuple #[.pointer (some ⟨gl,0,none⟩),.agg (uV aA rate t.length),o0])/\(∃own,LiveE w' w.heap.size own gl t rate)/\VB w.heap.size w w'
def aNs {w b t d e f} (c:Bk w b t e) (a:Bk w b d f):t=d:=by
 unfold Bk at c a;rw [c] at a;injection a with a;injection a with _ ht
def aLm {w w' c e gl rate aA d t} (m:c.getD 3 undef=.pointer (some e)) (j:c.getD 2 undef=.pointer (some ⟨gl,0,none⟩)) (k:c.getD 4 undef=.int .i64 0) (l:Bk w' e 102 (uV aA rate d)) (ht:∃own,LiveE w' w.heap.size own gl t rate) (n:VB w.heap.size w w'):
 bodyPost prog f58 (λi w'=>∃gl,i=.returned (.tuple #[.pointer (some ⟨gl,0,none⟩),.agg (uV aA rate d),o0])/\(∃own,LiveE w' w.heap.size own gl t rate)/\VB w.heap.size w w') .ret ⟨c, []⟩ w':=by
 have g:=xS (P:=prog) (fn:=f58) (a:=2) (p:=3) (b:=4) (ty:=102) rfl c w' e 102 (uV aA rate d) (0,0) _ m l underlying102 rfl kR;rw [j,k] at g;exact bodyPost_ret g rfl ⟨gl,rfl,ht,n⟩
def aDJ (f a) {F} (aA) {rate t j} (w) (U:IsSuf (aG t) j) (bW:t.length<=895) (c2:1<=rate) (c3:rate<=64) (cH:t.length<=aA) (cI:aA<=2147483648) (T:Rd w F 1 f (fC (aH (aG t) j) j aA rate t.length).length ((fC (aH (aG t) j) j aA rate t.length).map bv)) (hB:F<=w.heap.size) (aV:(fC (aH (aG t) j) j aA rate t.length).length<=a) (a0:a<=maxLen):
 Calls prog 58 #[.slice f (fC (aH (aG t) j) j aA rate t.length).length a] w (aBj w t rate aA):=by
 obtain ⟨u,K⟩:=eqx (aH (aG t) j);rw [K] at T aV⊢;have bS:=dR (rs:=j) (eX t);have a1:u.length=t.length+1:=by rw [<-K,bY,U.len,aO]
 rw [K] at bS;obtain ⟨d,G⟩:=eqx t.length;unfold aBj;rw [G] at T aV a1 cH bW⊢;obtain ⟨x,bL⟩:=eqx (qI u j aA rate d);obtain ⟨cd,ce,cf,cg,i,y,a2⟩:=SnAt.of u j aA rate d;rw [bL] at y a2;have bl:fC u j aA rate d=x++nD (lP x):=by unfold fC;rw [bL]
 have c6:(fC u j aA rate d).length=i+4:=by rw [bl,zAi,a2,lM]
 rw [c6] at T aV⊢;have dg:4<=i:=by have:=y.h1;have:=y.h2;have:=y.h3;have:=y.h4;have:=y.h5;omega
 have d9:¬(i+4 < 8):=oM;have dh:i<=100000:=by have a9:=y.h1;have aN:=y.h2;have aa:=y.h3;have cx:=y.h4;have cy:=y.h5;have cu:=bX aA;have d0:=bX rate;have d1:=bX d;have d2:=bX (gS u).length;have d3:=bX (yO j rate d).length;have d4:=oK u;have cv:=pM j rate (d / rate+1);have d5:d / rate<=d:=zDZ _ _;rw [<-zB] at cv;rw [kW] at cx cy;omega
 have bh:=(T.aj (k:=i) (cap:=a) oM);have bM:=vA x;have cc:((fC u j aA rate d).map bv).take (i*1)=x.map bv:=by rw [<-zDw,bl,zBl,List.take_left' a2]
 rw [cc] at bh;have b9:=aMW (n:=(lP x)) x [] bM;rw [zEa,<-bl,a2] at b9;have aW:∀(f W:Option Addr) (z a aL:Nat) (w:World),Rd w w.heap.size 1 f z (x.map bv)->z<=1099511627776->Rd w w.heap.size 1 W 1 [.slice f z a]->Calls prog 66 #[.slice W 1 aL] w λr w'=>r=.returned (.int .u32 (lP x:Nat))/\Below w.heap.size w w':=λf W z a aL w a9 aN aa=>xL (A:=f) (AP:=W) (n:=z) (c:=a) (b:=x) (w:=w) aL a9 aN aa;obtain ⟨cY,c7⟩:=eqx (lP x);rw [c7] at b9 aW;have bG:=U;clear U cc bM c7;have dm:=jH (P:=prog) 22 5 1 underlying22 (λw=>by kernel_rfl) f (i+4) a i oM;have cu:IntKind.i64.wrap ((i+4:Nat) - 4)=(i:Int):=zu
 go_enter func58,ntmps58;go_wp2_with fail;obtain ⟨e,ai⟩:=eqx w.heap.size;have aj:Bk (w.alloc (.cells #[o0,o0,o0] 102)) e 102 #[o0,o0,o0]:=ai ▸ kd _ _ _;have Q:Below w.heap.size w (w.alloc (.cells #[o0,o0,o0] 102)):=bR.alloc nL _;have bj:(w.alloc (.cells #[o0,o0,o0] 102)).heap.size=e+1:=by simp [ai]
 rw [ai] at Q hB⊢;generalize w.alloc (.cells #[o0,o0,o0] 102)=W0 at aj Q bj⊢;refine (aPi (A:=f) (m:=(i+4)) (l:=(fC u j aA rate d)) (at_:=(i:Int)) (B:=F) (w:=W0) (n:=cY) (k:=0) a b9 (T.below (Q.mono hB)) zx).mono ?_;rintro r w1 ⟨rfl,rfl⟩;go_wp2_with fail;have bJ:=bh.below (Q.mono hB);refine (aW (dH f a 0 1) _ i a _ _ (((bJ.mono (by omega:F<=W0.heap.size)).alloc nL _).mono zs) oM (Rd.bt _ _ 1 1 _ _ rfl bj.symm)).mono ?_;rintro r au ⟨rfl,bK⟩;have ac:=((kg W0.heap.size W0).alloc nL (.cells #[.slice (dH f a 0 1) i a] 22)).trans (bK.mono zs);have cN:=ac.size;have bq:=(Q.trans (ac.mono oM));have bt:=(aj.below ac aj.lt);clear bK ac Q aj bJ;go_wp2_with fail;have O:∀I,Below e w I->Rd I F 1 (dH f a 0 1) i (x.map bv):=λI cw=>bh.below (cw.mono hB);obtain ⟨o,b0⟩:=eqx au.heap.size;have an:Bk (au.alloc (.cells #[.slice (dH f a 0 1) i a,(4:Int),false] 156)) o 156 (aKI (dH f a 0 1) i a 4):=b0 ▸ kd _ _ _;have ag:=bq.alloc oM (.cells #[.slice (dH f a 0 1) i a,(4:Int),false] 156);have b2:=bt.alloc (.cells #[.slice (dH f a 0 1) i a,(4:Int),false] 156);have bm:o < (au.alloc (.cells #[.slice (dH f a 0 1) i a,(4:Int),false] 156)).heap.size:=an.lt;have df:e < o:=oM;rw [b0];generalize au.alloc (.cells #[.slice (dH f a 0 1) i a,(4:Int),false] 156)=W2 at an ag b2 bm⊢;have R:∀(I bo:World),Below e w I->o < I.heap.size->Keep (λs=>s=o) I bo->Below e w bo:=λI bo a9 aN aa=>a9.trans (aa.e oM (λs ab r=>by omega));clear b0 bq bt aW cN bj;have S:i<=a:=oM;refine (oV (gr:=o) (A:=(dH f a 0 1)) (n:=i) (c:=a) (B:=F) (at_:=4) (to_:=cd) (v:=aA) (l:=x) (w:=W2) 2147483648 an (O _ ag) S a0 (y.n1 oM) oM oM).mono ?_;rintro r cj ⟨rfl,bd,b4⟩;have aD:=(R _ _ ag bm b4);have bu:=(b4.d b2 oM);have c8:o < cj.heap.size:=bd.lt;clear b4 an ag b2 bm;go_wp2_with fail;refine (oV (gr:=o) (A:=(dH f a 0 1)) (n:=i) (c:=a) (B:=F) (at_:=cd) (to_:=ce) (v:=rate) (l:=x) (w:=cj) 64 bd (O _ aD) S a0 (y.n2 oM) oM oM).mono ?_;rintro r ck ⟨rfl,be,b5⟩;have aE:=(R _ _ aD c8 b5);have bw:=(b5.d bu oM);have c9:o < ck.heap.size:=be.lt;clear b5 bd aD bu c8;go_wp2_with fail;refine (oV (gr:=o) (A:=(dH f a 0 1)) (n:=i) (c:=a) (B:=F) (at_:=ce) (to_:=cf) (v:=d) (l:=x) (w:=ck) 2147483648 be (O _ aE) S a0 (y.n3 oM) oM oM).mono ?_;rintro r av ⟨rfl,bf,b6⟩;have br:=(R _ _ aE c9 b6);have bx:=(b6.d bw oM);have cQ:o < av.heap.size:=bf.lt;clear b6 be aE bw c9;go_wp2_with fail;obtain ⟨gH,aY⟩:=eqx av.heap.size;have aP:Bk (av.alloc (.cells #[(aA:Int),(rate:Int),(d:Int)] 102)) gH 102 (uV aA rate d):=aY ▸ kd _ _ _;have ah:=br.alloc oM (.cells #[(aA:Int),(rate:Int),(d:Int)] 102);have b3:=bx.alloc (.cells #[(aA:Int),(rate:Int),(d:Int)] 102);have M:=bf.alloc (.cells #[(aA:Int),(rate:Int),(d:Int)] 102);have dc:o < gH:=oM;rw [aY];generalize av.alloc (.cells #[(aA:Int),(rate:Int),(d:Int)] 102)=W5 at aP ah b3 M⊢;have ca:o < W5.heap.size:=M.lt;have bF:=M;clear aY M br bx bf cQ;obtain ⟨aq,bO⟩:=eqx ((gS u).length);obtain ⟨cR,bP⟩:=eqx ((yO j rate d).length);have cD:=oK u;have cF:=pM j rate (d / rate+1);have cE:=aMI j rate (d / rate+1);have da:d / rate<=d:=zDZ _ _;rw [<-zB,bP] at cF cE;rw [bO,a1] at cD;obtain ⟨a4,ba,c0,bb,cJ⟩:=y.f1 oM;obtain ⟨cU,bc,cK,c1,cL⟩:=y.f2 oM;rw [bO] at ba c0 bb;rw [bP] at bc cK c1;rw [a2] at cJ cL;refine (vI (gr:=o) (A:=(dH f a 0 1)) (n:=i) (c:=a) (B:=F) (at_:=cf) (q:=a4) (k:=aq) (l:=x) (w:=W5) cg bF (O _ ah) S a0 oM ba c0 oM).mono ?_;rintro r cl ⟨rfl,bg,al⟩;have aF:=(R _ _ ah ca al);have bz:=(al.d b3 oM);have bp:=(al.d aP oM);have cb:o < cl.heap.size:=bg.lt;clear al bF ah b3 aP ca;go_wp2_with fail;refine (vI (gr:=o) (A:=(dH f a 0 1)) (n:=i) (c:=a) (B:=F) (at_:=cg) (q:=cU) (k:=cR) (l:=x) (w:=cl) i bg (O _ aF) S a0 oM bc oM oM).mono ?_;rintro r V ⟨rfl,M,am⟩;have cs:V.cell? ⟨o,2,none⟩=some (.bool false):=M.cell 2;have X:=(R _ _ aF cb am);have aJ:=(am.d bz oM);have J:=am.d bp oM;have a7:V.cell? gH=some (.int .i64 aA):=J.cell 0;have a8:V.cell? ⟨gH,1,none⟩=some (.int .i64 rate):=J.cell 1;have bH:V.cell? ⟨gH,2,none⟩=some (.int .i64 d):=J.cell 2;clear M am bg aF bz bp cb;have ch:¬((rate:Int) < 1):=oM;have cV:=zBy ch;have ci:¬((d:Int) > aA):=oM;have cW:=zBy ci;have cX:=zn (aA < d);go_wp2_with fail;have bi:=((O _ X).cut (k:=a4) (cap:=a) oM S).cut_hi (k:=aq) oM;have bN:((x.map bv).drop (a4*1)).take (aq*1)=(gS u).map bv:=by rw [zBl,zBl,<-zEb,<-zDw,bb]
 rw [bN] at bi;have aZ:=aDd (l:=(jC u)) (aEh bS) (by rw [qY,a1];omega) ((d:Int)+1) (by rw [qY,a1];omega) [];rw [zEa,zBx rfl] at aZ;refine (aJG (A:=(dH (dH f a 0 1) a a4 1)) (m:=aq) (c:=(a - a4)) (B:=F) (b:=(gS u)) (aA:=((d:Int)+1)) (w:=V) (l:=(jC u)) (k:=0) (d+1) aZ (by rw [qY,a1]) bi (zj X.size) oM oM oM oM).mono ?_;rintro r cm ⟨co,cr,rfl,bU,ad⟩;have b7:=bU.rd;rw [<-aNN] at b7;have aU:=aA9 (B:=cm.heap.size) (t:=t) (rs:=j) (w:=cm) co cr bG (by rw [K,G];exact b7) nL (by rw [G];omega);rw [G] at aU;have cB:gH < V.heap.size:=J.lt;have ay:=(X.trans (ad.mono (zj X.size)));have aI:=(aJ.below ad aJ.lt);have ax:=(J.below ad J.lt);clear bU ad b7 aZ bN bi a7 a8 bH cs ch cV ci cW cX ba bc bb c1 J aJ X O R y cB;go_wp2_with fail;refine aU.mono ?_;clear aU;rintro r E ⟨aw,aK,rfl,bV,ae⟩;have Y:=ax.below ae ax.lt;have az:=(ay.trans (ae.mono (zj ay.size)));have a6:=(aI.below ae aI.lt);have bE:=bV.rd;have a8:E.cell? ⟨gH,1,none⟩=some (.int .i64 rate):=Y.cell 1;clear ae bV ay aI ax;go_wp2_with fail
 have bZ:=vO (A0:=(some ⟨E.heap.size,0,none⟩)) (m0:=1) (B:=(E.heap.size+1)) (ss:=[(⟨aw,d,aK,t⟩:Sl)]) (t:=t) (N:=d) (w:=(E.alloc (.cells #[.slice aw d aK] 22))) rate 1 (by simp [iV]) G ((Rd.made E _ 1 1 _ rfl).mono zs) (by
  intro dp U;simp at U;subst U;exact (bE.alloc nL _).mono oM) zs oM bW c2 c3
 refine bZ.mono ?_;clear bZ;rintro r ar ⟨gl,cS,rfl,cC,L,aT⟩;have bD:=L;obtain ⟨gk,bI,dn,cZ,bn,cT,a3,_,_⟩:=L;have c5:=a3.aa;have c4:=a3.right;have cM:=c5.unique bG;subst cM;have L:=a3.live.g a3.ag;rw [K,G] at L;have af:=((kg E.heap.size E).alloc nL (.cells #[.slice aw d aK] 22)).trans (aT.mono zs);have aQ:=Y.below af Y.lt;have aB:=(az.trans (af.mono (zj az.size)));have bs:=(a6.below af a6.lt);have a7:ar.cell? gH=some (.int .i64 aA):=aQ.cell 0;have de:gH < E.heap.size:=Y.lt;have dd:e < E.heap.size:=a6.lt;have bA:=bD;rw [sZ0] at L;have cO:E.heap.size+1<=ar.heap.size:=by have:=aT.size;simpa using this
 have ao:=vF (Bw:=(E.heap.size+1)) (gl:=gl) (gk:=gk) (gp:=bI) (rate:=rate) (aA:=aA) (t:=t) (rs:=bn) (C:=cT) (w:=ar) (by rw [K,G];exact L) c4 c5 (by rw [G];omega) c2 c3 (by rw [G];omega) cI;unfold gJ at ao;rw [K,G,c6] at ao;have db:=aB.size;clear L a3 c4 bD aT af a8 az a6 Y bE cC;go_wp2_with fail;refine ao.mono ?_;clear ao;rintro r a5 ⟨cn,cq,rfl,bT,ap⟩;have ak:Below (E.heap.size+1) ar a5:=ap.2.e cO (λs ab r=>by omega);have di:=ap.1.size;have aR:Bk a5 gH 102 (uV aA rate d):=aQ.below ak oM;have b1:Bk a5 e 102 #[o0,o0,o0]:=bs.below ak oM;have aC:=(aB.trans (ak.mono oM));have aX:=aBt (A:=cn) (A2:=f) (n:=(i+4)) (n2:=(i+4)) (B:=a5.heap.size) (l:=(fC u bn aA rate d)) (l2:=(fC u bn aA rate d)) (w:=a5) cq a bT.rd ((T.below (aC.mono hB)).mono oM);rw [beq_self_eq_true] at aX;have bB:=(bA.b ap.1);clear bT ap ak aB bs aQ a7 bA;go_wp2_with fail;refine aX.mono ?_;clear aX;rintro r D ⟨rfl,Z⟩;have aS:=aR.below Z aR.lt;have H:=b1.below Z b1.lt;have cp:=(aC.trans (Z.mono oM));have bC:=(bB.b (kb Z));clear Z aC aR b1 bB;go_wp2_with fail;have a7:D.cell? gH=some (.int .i64 aA):=aS.cell 0;have a8:D.cell? ⟨gH,1,none⟩=some (.int .i64 rate):=aS.cell 1;have bH:D.cell? ⟨gH,2,none⟩=some (.int .i64 d):=aS.cell 2;have dj:D.cell? e=some (.int .i64 0):=H.cell 0;have dk:D.cell? ⟨e,1,none⟩=some (.int .i64 0):=H.cell 1;have dl:D.cell? ⟨e,2,none⟩=some (.int .i64 0):=H.cell 2;have d6:=H.frozen 0;have d7:=H.frozen 1;have d8:=H.frozen 2;have cA:Bk ((((D.setCell e (.int .i64 aA)).setCell ⟨e,1,none⟩ (.int .i64 rate)).setCell ⟨e,2,none⟩ (.int .i64 d)).drew) e 102 (uV aA rate d):=by have:=(((H.set 0 (.int .i64 aA)).set 1 (.int .i64 rate)).set 2 (.int .i64 d)).drew;simpa [uV] using this
 have cz:Below e w ((((D.setCell e (.int .i64 aA)).setCell ⟨e,1,none⟩ (.int .i64 rate)).setCell ⟨e,2,none⟩ (.int .i64 d)).drew):=
  (((cp.setCell (p:=e) nL _).setCell (p:=⟨e,1,none⟩) nL _).setCell (p:=⟨e,2,none⟩) nL _).drew
 have cP:∀s t aM,t≠102->Bk D s t aM->Bk ((((D.setCell e (.int .i64 aA)).setCell ⟨e,1,none⟩ (.int .i64 rate)).setCell ⟨e,2,none⟩ (.int .i64 d)).drew) s t aM:=λs t aM ht ab=>by
  have b8:s≠e:=λr=>by subst r;exact ht (aNs ab H)
  exact (((ab.m (p:=e) b8 _).m (p:=⟨e,1,none⟩) b8 _).m (p:=⟨e,2,none⟩) b8 _).drew
 have bQ:Keep (λs=>s=e) D ((((D.setCell e (.int .i64 aA)).setCell ⟨e,1,none⟩ (.int .i64 rate)).setCell ⟨e,2,none⟩ (.int .i64 d)).drew):=
  (((((ke (λs=>s=e) D).setCell (p:=e) (.inl rfl) _).setCell (p:=⟨e,1,none⟩) (.inl rfl) _).setCell (p:=⟨e,2,none⟩) (.inl rfl) _)).drew
 have cG:=(bC.bz bQ λs r=>by
  have ct:s=e:=r;subst ct;by_cases a:cS s=0;exact a
  .have:=(bC.q s a).1;rw [sZ0] at this;omega).low (B':=e) (by rw [sZ0];omega)
 clear cP bQ
 go_region
 go_wp2_with fail;subst ai;refine aLm rfl rfl rfl cA ⟨_,cG⟩ (kc cz)
section
open Classical in
def VisF.split {d w w'} (f:VisF d w w'):∃w1,Keep d w w1/\Vis w1 w':=by
 let c:Array Obj:=Array.ofFn (n:=w'.heap.size) λk=>if g:k.val < w.heap.size/\¬d k.val then w.heap[k.val]'g.1 else w'.heap[k.val]
 have x:c.size=w'.heap.size:=Array.size_ofFn;have q:∀a,a < w'.heap.size->c[a]?=if a < w.heap.size/\¬d a then w.heap[a]? else w'.heap[a]?:=λa g=>by
  rw [zAq oM,Array.getElem_ofFn];by_cases b:a < w.heap.size/\¬d a
  .rw [zBx b,dif_pos b,zAq b.1]
  .rw [zBw b,dif_neg b,zAq g]
 refine ⟨{ w' with heap:=c },⟨f.os,f.tape,f.output,?_,λj r v=>?_⟩,⟨rfl,rfl,rfl,?_,λa g _=>?_⟩⟩;show w.heap.size<=c.size;rw [x];exact f.size
 .show c[j]?=w.heap[j]?;rw [q j (zAl r f.size),zBx ⟨r,v⟩]
 show c.size<=w'.heap.size;omega;have u:a < w'.heap.size:=(by have:a < c.size:=g;omega);have i:({ w' with heap:=c }:World).heap[a]?=if a < w.heap.size/\¬d a then w.heap[a]? else w'.heap[a]?:=q a u;by_cases b:a < w.heap.size/\¬d a;rw [zBx b] at i;have p:∀t e,Bk w a t e->Bk { w' with heap:=c } a t e:=λt e j=>i.trans j;rcases f.block a b.1 b.2 with s |⟨e,o,l,m⟩|⟨e,o,l,m⟩;exact .inl (by rw [i];exact s);exact .inr (.inl ⟨e,o,p _ _ l,m⟩);exact .inr (.inr ⟨e,o,p _ _ l,m⟩);rw [zBw b] at i;exact .inl i.symm
def LiveE.cA {w w' B own gl t rate a} (c:LiveE w B own gl t rate) (g:VisF a w w') (f:∀b,a b->own b=0):LiveE w' B own gl t rate:=by
 obtain ⟨w1,d,e⟩:=g.split;exact (c.bz d f).b e
end
section
structure StAt (w:World) (B:Nat) (own:Nat->Nat) (gs gl aA rate:Nat) (t:List UInt8):Prop where
 a:Bk w gs 53 #[gl,(aA:Int)]
 low:B<=gs
 x:own gs=0
 live:LiveE w B own gl t rate
 n127:t.length<=895
 len:t.length<=aA
 max:aA<=2147483648
 r1:1<=rate
 r2:rate<=64
section
variable {w w' : World} {B gs gl aA rate : Nat} {own own' : Nat -> Nat} {t : List UInt8}
def StAt.tp (a:StAt w B own gs gl aA rate t):TpAt w B gl t rate:=a.live.tp a.n127
def StAt.G (a:StAt w B own gs gl aA rate t) (b:Vis w w'):StAt w' B own gs gl aA rate t:=
 ⟨b.d a.a dC dC,a.low,a.x,a.live.b b,a.n127,a.len,a.max,a.r1,a.r2⟩
def StAt.size (a:StAt w B own gs gl aA rate t):B<=w.heap.size:=by have:=a.low;have:=a.a.lt;omega
def StAt.fresh (b:StAt w B own gs gl aA rate t) {a} (d:w.heap.size<=a):own a=0:=zFi λc=>by have:=(b.live.q a oM).2;omega
def StAt.cb {a} (c:StAt w B own gs gl aA rate t) (d:t.length=a):Calls prog 17 #[gl] w λb w'=>b=.returned (.int .i64 a)/\w=w':=by
 obtain ⟨m,gk,g,l,f,e,j,k,i⟩:=c.tp;exact cD (n:=a) e.ai (by rw [bY,f.len,aO,d]) oM
end
structure LFS (B gs:Nat) (w w':World) (own own':Nat->Nat):Prop where
 H:∀b,b < w.heap.size->own' b≠0->own b≠0
 b:VisF (λb=>own b≠0∨b=gs) w w'
 keep:Keep (λb=>B<=b) w w'
section
variable {B gs : Nat} {w w1 w' : World} {own own1 own' : Nat -> Nat}
def LFS.refl (B gs w own):LFS B gs w w own own:=⟨λ_ _ a=>a,VisF.C (Vis.refl w),ke _ _⟩
def LFS.size (a:LFS B gs w w' own own'):w.heap.size<=w'.heap.size:=a.keep.size
def LFS.trans (b:LFS B gs w w1 own own1) (e:LFS B gs w1 w' own1 own'):LFS B gs w w' own own':=by
 have f:=b.keep.size;refine ⟨λc d a=>b.H c d (e.H c oM a),b.b.trans' e.b λc d a=>?_,b.keep.trans e.keep⟩;rcases a with a | a;exact .inl (b.H c d a);exact .inr a
def LFS.cr (gs) (b:LF B w w' own own'):LFS B gs w w' own own':=⟨λc d a=>by rw [<-b.H c d];exact a,b.b.mono λc _ a=>.inl a,b.keep⟩
def LFS.i (gs own) (a:VB B w w'):LFS B gs w w' own own:=⟨λ_ _ b=>b,VisF.C a.1,a.2⟩
def LFS.j (B gs own) (a:Below w.heap.size w w'):LFS B gs w w' own own:=LFS.i gs own (kc a)
def LFS.below (c:LFS B gs w w' own own') (hB:B<=w.heap.size):Below B w w':=c.keep.e hB λa e b=>by have d:B<=a:=b;omega
def LFS.zero (e:LFS B gs w w' own own') {a} (d:a < w.heap.size) (c:own a=0):own' a=0:=by
 by_cases b:own' a=0;exact b;exact absurd c (e.H a d b)
def LFS.d (j:LFS B gs w w' own own') {a t c} (d:Bk w a t c) (e:own a=0) (i:a≠gs) (f:t≠223) (g:t≠181):Bk w' a t c:=
 j.b.d d f g λb=>b.elim (λb=>b e) i
structure Ap (own:Nat->Nat) (gs b:Nat):Prop where
 x:own b=0
 ne:b≠gs
def Ap.step {a} (b:Ap own gs a) (d:LFS B gs w w' own own') (c:a < w.heap.size):Ap own' gs a:=⟨d.zero c b.x,b.ne⟩
def MadeZ (w:World) (own:Nat->Nat) (gs:Nat) (d:TypeId) (b:Option Addr) (e c:Nat) (f:List Value):Prop:=Made w 0 d 1 b e c f/\∀a,b=some a->a.block < w.heap.size/\Ap own gs a.block
def MadeZ.step {a c e f i} (b:MadeZ w own gs a c e f i) (g:LFS B gs w w' own own') (n:a≠223) (o:a≠181):MadeZ w' own' gs a c e f i:=by
 have j:w'.ownsRow 0 a 1 (.slice c e f) e i:=aC b.1.own λl r k q=>by
  rcases c with _ | d
  .cases k
  have m:d.block=l:=(by simpa [Value.ownBlock] using k);have:=(b.2 d rfl).2;rw [m] at this;exact g.d q this.x this.ne n o
 refine ⟨⟨j,Rd.s j,b.1.cap,b.1.max⟩,λd p=>?_⟩;have:=b.2 d p;exact ⟨zAl this.1 g.size,this.2.step g this.1⟩
def ArgZ (w:World) (B:Nat) (own:Nat->Nat) (gs:Nat) (b:Option Addr) (c:Nat) (d:List UInt8):Prop:=
 Rd w w.heap.size 1 b c (d.map bv)/\(0 < c->∀a,b=some a->a.block < B∨(Ap own gs a.block/\∃e f,w.heap[a.block]?=some (.cells e 5 f)))
def VisF.same {d b e t j} (n:VisF d w w') (c:w.heap[b]?=some (.cells e t j)) (m:¬d b) (k:t≠223) (l:t≠181):w'.heap[b]?=w.heap[b]?:=by
 rcases n.block b (lt_of_block c) m with g |⟨f,o,a,i⟩|⟨f,o,a,i⟩;exact g;exfalso;unfold Bk at a;rw [c] at a;injection a with a;injection a with _ a;exact k a;exfalso;unfold Bk at a;rw [c] at a;injection a with a;injection a with _ a;exact l a
def ArgZ.step {l k f} (c:ArgZ w B own gs l k f) (e:LFS B gs w w' own own'):ArgZ w' B own' gs l k f:=by
 have z:=e.size;rcases zBa k with d | d;subst d;have:f= []:=(by simpa using c.1.1);subst this;exact ⟨Rd.nil _ _ _ _,λr=>absurd r oM⟩;obtain ⟨b,v,rfl,o,q⟩:=c.1.2 d;have p:w'.heap[b]?=w.heap[b]?:=(by rcases c.2 d _ rfl with a |⟨a,m,n,g⟩;exact e.keep.block b o (by have A:b < B:=a;omega);exact e.b.same g (λi=>i.elim (λi=>i a.x) a.ne) dC dC);refine ⟨⟨c.1.1,λ_=>⟨b,v,rfl,by omega,λu x s=>by rw [<-q u x s];exact zDd p⟩⟩,λ_ y j=>?_⟩;injection j with j;subst j;rcases c.2 d _ rfl with a |⟨a,m,n,g⟩;exact .inl a;exact .inr ⟨a.step e o,m,n,p.trans g⟩
def ArgZ.H {c b f d} (e:Rd w c 1 b f (d.map bv)) (l:c<=B) (hB:B<=w.heap.size):ArgZ w B own gs b f d:=
 ⟨e.mono oM,λj k a=>by
  obtain ⟨g,n,i,m,_⟩:=e.2 j;rw [i] at a;injection a with a;subst a;exact .inl (by show g < B;omega)⟩
def ArgZ.made {d f i e} (c:MadeZ w own gs 5 d f i (e.map bv)):ArgZ w B own gs d f e:=
 ⟨c.1.rd,λp g a=>by
  have l:=(c.2 g a).2
  obtain ⟨o,n,j,b,_,k,_⟩:=c.1.own.2.resolve_left (λm=>by
   have:=m.1;injection this with q1;rw [q1] at a;cases a)
  injection b with b;rw [b] at a;injection a with a;subst a;exact .inr ⟨l,j,_,k⟩⟩
def ArgZ.b {a c b} (d:ArgZ w B own gs a c b) (e:Below w.heap.size w w'):ArgZ w' B own gs a c b:=d.step (LFS.j B gs own e)
def StAt.m {gl aA rate t H} (a:StAt w B own gs gl aA rate t) (e:Keep H w w') (d:∀b,H b->Ap own gs b):StAt w' B own gs gl aA rate t:=
 ⟨e.d a.a λc=>(d _ c).ne rfl,a.low,a.x,a.live.bz e λb c=>(d b c).x,a.n127,a.len,a.max,a.r1,a.r2⟩
def Two (own1:Nat->Nat) (b:Nat) (d:Nat->Nat) (c:Nat):Prop:=∀a,own1 a≠0∨a=b->Ap d c a
end
def StAt.other {w w' B o g d j k m own1 l e n} (a:StAt w B e d j k m n) (i:LFS o g w w' own1 l) (ht:Two own1 g e d):StAt w' B e d j k m n/\Two l g e d:=by
 refine ⟨⟨i.b.d a.a dC dC λf=>(ht _ f).ne rfl,a.low,a.x,a.live.cA i.b λb f=>(ht b f).x,a.n127,a.len,a.max,a.r1,a.r2⟩,λb c=>?_⟩;rcases c with c | c;by_cases p:b < w.heap.size;exact ht b (.inl (i.H b p c));exact ⟨a.fresh oM,by have:=a.a.lt;omega⟩;exact ht b (.inr c)
def Two.symm {own1 e c d} (g:Two own1 c e d) (j:own1 c=0) (k:e d=0):Two e d own1 c:=λb a=>by
 refine ⟨?_,λi=>?_⟩;by_cases f:own1 b=0;exact f;have:=g b (.inl f);rcases a with a | a;exact absurd this.x a;exact absurd a this.ne;have:=g b (.inr i);rcases a with a | a;exact a this.x;exact this.ne a
def sD {B own gs gl aA rate N t} (a b) {w} (d:StAt w B own gs gl aA rate t) (m:t.length=N):
 Calls prog 46 #[gs,(a:Int),(b:Int)] w λc w'=>c=.returned (.bool (dK N a b))/\w=w':=by
 have i:=d.cb m;have p:N<=895:=zj d.n127
 have n:=d.a.cell 0;clear d;unfold dK;by_cases e:0<=a
 .by_cases g:0<=b
  .by_cases k:a<=(N:Int)
   .have o:IntKind.i64.wrap (N - a)=(N:Int) - a:=zu;have f:=zBz e;have j:=zBz g;have l:=zBz k;go_enter func46,ntmps46;go_wp2_with fail;refine i.mono ?_;rintro c w1 ⟨rfl,rfl⟩;go_wp2_with fail;refine i.mono ?_;rintro c w1 ⟨rfl,rfl⟩;go_wp2_with fail;go_ret;refine ⟨?_,rfl⟩
    first | rfl |(show Ending.returned (Value.bool (decide (b<=(N:Int) - a)))=_;congr 2;exact decide_eq_decide.2 oM)
   .have f:=zBz e;have j:=zBz g;have l:=zBy k;go_enter func46,ntmps46;go_wp2_with fail;refine i.mono ?_;rintro c w1 ⟨rfl,rfl⟩;go_wp2_with fail;go_ret;refine ⟨?_,rfl⟩;show Ending.returned (Value.bool false)=_;rw [zBy oM]
  .have f:=zBz e;have j:=zBy g;go_enter func46,ntmps46;go_wp2_with fail;go_ret;exact ⟨rfl,rfl⟩
 .have f:=zBy e;go_enter func46,ntmps46;go_wp2_with fail;go_ret;exact ⟨rfl,rfl⟩
end
def TabW.bx {c d a own i} (b:TabW c) (g:LF a c d own i) (hB:0 < a):TabW d:=
 b.below (B:=0+1) (g.keep.e (by have:=b.pos;omega) λe k f=>by have j:a<=e:=f;omega) oM
def aLL {b:List Nat} {d c a e:Nat} (l:b[c]?=some e) (m:b[d]?=some a) (n:d≠c):b.Perm (e::aK (b.set c a) d):=by
 have g:=zX (s:=a) l;have i:(b.set c a)[d]?=some a:=by rw [zDr (λf=>n f.symm),m]
 have j:=fH i;have k:(a::b).Perm (e::a::aK (b.set c a) d):=g.symm.trans (j.symm.cons e);exact (k.trans (List.Perm.swap a e _)).cons_inv
def aAj {a b} (c:b≠a):bN b a=ush a b:=by
 unfold bN ush;split <;> split <;> omega
def aFM {w B own gl t rate} (a) (c5:LiveE w B own gl t rate) (ca:TabW w) (bf:0 < B) (cj:t.length<=895) (v:a < t.length) (bL:1<=rate) (cp:rate<=64):
 Calls prog 47 #[gl,(a:Int)] w (aD1 w B own gl (aK t a) rate):=by
 obtain ⟨gk,Q,cX,bd,i,E,q,aR,aF,_⟩:=c5;obtain ⟨e,a0⟩:∃e,t.length=e+1:=⟨t.length - 1,by omega⟩;have aj:=a0;rw [a0] at q aF cj v;have v:a<=e:=oM;obtain ⟨o,cb,cr⟩:=q.len a0;have C:=fA t;rw [a0] at C;obtain ⟨x,J⟩:=eqx (aG t);have c9:aG (aK t a)=aK x a:=by rw [aKf t oM,J]
 have aA:=C.len;have bp:∀b∈x,b < 257:=by rw [<-J];exact eX t
 rw [J] at C o aA;have D:=q.aa;rw [J] at D;have U:∀m,m<=e+1->m∈i:=λm cU=>D.mem oM;have aL:i.Nodup:=D.nodup;have aq:i.Perm (List.range (e+1+1)):=by have:=D.perm;rwa [aA] at this
 have aM:=aLc D C (at_:=a) v;obtain ⟨bP,V⟩:=aKC aq (at_:=a) v;have I:=aI3 aq C (at_:=a) v;have a6:ro i a≠ro i (a+1):=λc=>by have:=fL (U a oM) (U (a+1) oM) c;omega
 have bv:=qK D C (show 0 < a+1 by omega) (show a+1<=e+1 by omega);rw [zBb] at bv;obtain ⟨a1,A⟩:=bv;obtain ⟨d,a4⟩:=eqx (ro i a);obtain ⟨G,ak⟩:=eqx (ro i (a+1));have au:i[d]?=some a:=by rw [<-a4];exact cE (U a oM)
 have bM:i[G]?=some (a+1):=by rw [<-ak];exact cE (U (a+1) oM)
 have bG:d < e+2:=zj ((zAc.1 au).1)
 have bu:G < e+2:=zj ((zAc.1 bM).1)
 obtain ⟨P,bo⟩:=eqx ((aK i (ro i a)).map (ush a));rw [bo] at aM bP V I;rw [a4] at V I a6 a1;rw [ak] at I a6 a1 A;obtain ⟨Y,H⟩:=eqx (aH x i);rw [H] at I o a1 A;obtain ⟨N,aS⟩:=eqx (bS x a);rw [aS] at I;obtain ⟨ag,bw⟩:=eqx (x.getD a 0);rw [bw] at a1 A;have ai:Y[d]?=some N:=by rw [<-H,<-aS];unfold aH;rw [zAf,au];rfl
 have z:∀b∈Y,b < 257:=by rw [<-H];exact dR bp
 have cv:N < 257:=z N (zAd ai);have cf:ag < 257:=z ag (zAd A);have L:=q.live;rw [J,H] at L;have W:=q.ag;rw [J,H] at W;have ct:∀b∈Y.set G N,b < 257:=λb f=>by rcases zER f with n | n;exact z b n;omega
 have cu:(Y.set G N)[d]?=some N:=by rw [zDr (λc=>a6 c.symm),ai]
 have cw:bd.Perm (ag::aH (aK x a) P):=by rw [I];exact W.trans (aLL A ai a6)
 have a5:∀b∈E,(b.1≠d↔b.2≠a):=λb f=>by have n:=q.right b f;constructor;intro R c;rw [c] at n;have:=gR aL n;exact R (by rw [<-this,a4]);intro R c;rw [c,au] at n;injection n with n;exact R n.symm
 have cq:=q.c6;have co:∀b∈E,b.1≠d->P[bN b.1 d]?=some (bN b.2 a):=λb f ck=>by
  have n:=q.right b f;have R:=(a5 b f).1 ck;have S:b.2<=e+1:=by have:=aq.mem_iff.1 (zAd n);rw [zCj] at this;omega
  have be:ush a b.2<=e:=by unfold ush;split <;> omega
  have ah:=V (ush a b.2) be;rw [aGj R,gR aL n] at ah;rw [aAj R,<-ah];exact cE (aM.mem.2 be)
 have bJ:∀s,Smp E s->s<=e+1:=λs ⟨b,f,c⟩=>by have:=(L.perm.2.2 b f).2;omega
 have cm:=λ(c3:Nat->Prop) (c8:∀m,c3 m↔∃s,Smp E s/\s≠a/\m=ush a s)=>aGz aF aR bJ bL v c8;have cT:=L.q;obtain ⟨F,K⟩:∃F:Int,(if a=0 then -1 else ((ro i (a - 1):Nat):Int))=F:=⟨_,rfl⟩;have br:∀X,LiveM X B own gl gk Q rate 0 (e+1+1) (e+1+1) Y bd E->Calls prog 90 #[gl,(a:Int),(d:Int)] X λc aw=>c=.returned (.int .i64 F)/\VB B X aw:=λX ah=>by by_cases p:a=0;rw [zBx p] at K;subst p K;refine (qT d X gl).mono ?_;rintro c aw ⟨rfl,rfl⟩;exact ⟨rfl,VisK.refl _ _⟩;rw [zBw p] at K;obtain ⟨b1,b2⟩:=qK D C (show 0 < a by omega) oM;rw [H,a4] at b1 b2;have:=tR a ah oM b2 z oM oM;rw [mZ W,b1,K] at this;exact this
 have cc:aC4 F (d:Int)=aOf P a:=by
  rw [<-K];unfold aOf;by_cases p:a=0
  .rw [zBx p,zBx p,aEK]
  .rw [zBw p,zBw p,mX];have S:=V (a - 1) oM;rw [show sh a (a - 1)=a - 1 by unfold sh;rw [zBx oM]] at S;rw [S]
 have cg:ro P a=bN G d:=by have S:=V a v;rw [show sh a a=a+1 by unfold sh;rw [zBw oM],ak] at S;exact S
 have cd:-1000000<=F/\F<=1000000:=by rw [<-K];by_cases p:a=0;rw [zBx p];omega;rw [zBw p];have cW:ro i (a - 1) < i.length:=zDk.2 (U (a - 1) oM);omega
 have cl:a≠0->∃b∈E,b.1≠d:=λc6=>by obtain ⟨b,f,c⟩:=aR;exact ⟨b,f,(a5 b f).2 oM⟩
 have aI:=cD (L.g W).ai o oM;have c4:IntKind.i64.wrap ((e+1:Nat) - 1)=(e:Int):=zu
 have c1:=q.right;have c2:=q.aa;have b0:=L.a;have ce:(a:Int)<=e:=oM;obtain ⟨cO,c7⟩:=eqx (e+1);rw [c7] at aI c4;unfold aD1;clear q a0 aF aR D U C aq aL bo aS cr aA bJ a4 K ak bM bw bP V a6;go_enter func47,ntmps47;go_wp2_with fail;refine aI.mono ?_;clear aI;rintro c w1 ⟨rfl,rfl⟩;go_wp2_with fail;refine (aEa b0 oM ce).mono ?_;rintro c w1 ⟨rfl,rfl⟩;obtain ⟨al,aB⟩:=L.ah 0;clear b0 L;generalize w.setCell ⟨gl,3,none⟩ (.int .i64 0)=w1 at al aB⊢;have bQ:Calls prog 51 #[gl,(a:Int)] w1 λc aw=>c=.returned (.int .i64 d)/\VB B w1 aw:=by have ch:=al.g W;exact gP B gl gk Q rate w1 (by rw [aj,J];rw [H];exact ch) c1 c2 (by rw [aj];omega) au
 go_wp2_with fail;refine bQ.mono ?_;clear bQ;rintro c d1 ⟨rfl,aT⟩;have ac:=(al.b aT.1);have ax:=(aB.trans (LF.i (own:=own) aT));clear aT al aB;have r:=ac.a.cell 0;have bI:=tM (ac.walk.at W) A a1 z (by rw [o];omega) (ca.bx ax bf) bf;go_wp2_with fail;refine bI.mono ?_;clear bI;rintro c cL ⟨rfl,aU⟩;have ay:=(ac.b aU.1);have b3:=(ax.trans (LF.i (own:=own) aU));clear aU r ac ax;have bq:=br cL ay;clear br;go_wp2_with fail;refine bq.mono ?_;clear bq;rintro c X ⟨rfl,aV⟩;have ad:=(ay.b aV.1);have b4:=(b3.trans (LF.i (own:=own) aV));clear aV ay b3;obtain ⟨cR,cP,a3,a8⟩:=ad.gw;have r:=ad.a.cell 0;have M:=a3.cell 0;have a2:=eR G ag a8 (by rw [o];exact bu) (by have Z:=A;rw [zAa (by rw [o];exact bu)] at Z;injection Z) z (by rw [o];omega);clear a3 a8;go_wp2_with fail;refine a2.mono ?_;clear a2;rintro c d2 ⟨rfl,aW⟩;have ae:=(ad.b aW.1);have ab:=(b4.trans (LF.i (own:=own) aW));clear aW r M ad b4;obtain ⟨cS,cQ,a3,a8⟩:=ae.gw;have r:=ae.a.cell 0;have M:=a3.cell 0;have a2:=eR d N a8 (by rw [o];exact bG) (by have Z:=ai;rw [zAa (by rw [o];exact bG)] at Z;injection Z) z (by rw [o];omega);clear a3 a8;go_wp2_with fail;refine a2.mono ?_;clear a2;rintro c d3 ⟨rfl,aX⟩;have af:=(ae.b aX.1);have b5:=(ab.trans (LF.i (own:=own) aX));clear aX r M ae ab;have r:=af.a.cell 0;have bx:=lQ af.walk A cv z (by rw [o];omega);go_wp2_with fail;refine bx.mono ?_;clear bx;rintro c d4 ⟨rfl,cY,bg,bj⟩;obtain ⟨am,bB⟩:=af.I bg bj;have b6:=(b5.trans bB);clear bB bg bj r af b5;have r:=am.a.cell 0;have hcut:=iM am.walk cu ct (by rw [zAt,o];omega);go_wp2_with fail;refine hcut.mono ?_;clear hcut;rintro c d5 ⟨rfl,cF,bh,bk⟩;obtain ⟨an,bC⟩:=am.I bh bk;have b7:=(b6.trans bC);clear bC bh bk r am b6;have r:=an.a.cell 0;have bz:=nK an.walk cw cf (by rw [cb];omega);go_wp2_with fail;refine bz.mono ?_;clear bz;rintro c bW ⟨rfl,bi,bl⟩;obtain ⟨a7,bD⟩:=an.I bi bl;have b8:=(b7.trans bD);clear bD bi bl r an b7;have M:bW.cell? ⟨gl,1,none⟩=some (.pointer (some Q)):=(a7.a.cell 1).trans rfl;have bs:=a7.q;have bO:=aBg d a7.perm (λaz c=>(bs az oM).2) oM oM oM;clear bs;go_wp2_with fail;refine bO.mono ?_;clear bO;rintro c aY ⟨rfl,⟨d0,ao,bm⟩,bE⟩;obtain ⟨T,aC⟩:=a7.S bm bE;obtain ⟨cG,aP⟩:=eqx (eD cF bW.heap.size aY.heap.size 1);rw [aP,zBb] at T;rw [aP] at aC;have b9:=(b8.trans aC);clear aC bm bE M a7 b8 aP;have M:aY.cell? ⟨gl,1,none⟩=some (.pointer (some Q)):=(T.a.cell 1).trans rfl;have bt:=T.q;have bK:=aBh a T.perm (λaz c=>(bt az oM).2) oM oM oM (λb f bY cC c=>by
  obtain ⟨bX,cy,rfl⟩:=zAy.1 f;obtain ⟨bZ,cA,rfl⟩:=zAy.1 cC;rw [cq bX ((ao bX).1 cy).1 bZ ((ao bZ).1 cA).1 c])
 clear bt;go_wp2_with fail;refine bK.mono ?_;clear bK;rintro c aZ ⟨rfl,⟨bU,aJ,bn⟩,bF⟩;obtain ⟨bH,aD⟩:=T.S bn bF;obtain ⟨cZ,aQ⟩:=eqx (eD cG aY.heap.size aZ.heap.size 1);rw [aQ,zBb] at bH;rw [aQ] at aD;have ap:∀O,O∈bU.map (λb=>(b.1,bN b.2 a))↔∃b∈E,b.1≠d/\O=(bN b.1 d,bN b.2 a):=λO=>by
  constructor;intro aa;obtain ⟨bY,cz,rfl⟩:=zAy.1 aa;obtain ⟨cB,cV⟩:=(aJ bY).1 cz;obtain ⟨b,f,rfl⟩:=zAy.1 cB;obtain ⟨j,u⟩:=(ao b).1 f;exact ⟨b,j,u,rfl⟩
  .rintro ⟨b,j,u,rfl⟩;refine zAy.2 ⟨(bN b.1 d,b.2),(aJ _).2 ⟨zAy.2 ⟨b,(ao b).2 ⟨j,u⟩,rfl⟩,(a5 b j).1 u⟩,rfl⟩
 have cn:∀m,Smp (bU.map (λb=>(b.1,bN b.2 a))) m↔∃s,Smp E s/\s≠a/\m=ush a s:=λm=>by constructor;rintro ⟨O,aa,rfl⟩;obtain ⟨b,j,u,rfl⟩:=(ap O).1 aa;have a9:=(a5 b j).1 u;exact ⟨b.2,⟨b,j,rfl⟩,a9,aAj a9⟩;rintro ⟨_,⟨b,j,rfl⟩,a9,rfl⟩;exact ⟨_,(ap _).2 ⟨b,j,(a5 b j).2 a9,rfl⟩,aAj a9⟩
 have c0:=(b9.trans aD);clear aD bn bF M T b9 aQ aJ;have aN:=nO (G:Int) (d:Int) aZ oM;rw [mX] at aN;have aO:=nO F (d:Int) aZ cd;rw [cc] at aO;go_wp2_with fail;refine aN.mono ?_;clear aN;rintro c cM ⟨rfl,rfl⟩;go_wp2_with fail;refine aO.mono ?_;clear aO;rintro c cM ⟨rfl,rfl⟩;have ar:=qP ⟨aM,by have:=bH;rw [<-I] at this;exact this,zFU _,λO aa=>by
  obtain ⟨b,j,u,rfl⟩:=(ap O).1 aa;exact co b j u,λm=>Iff.rfl,λc6 c=>by
  obtain ⟨b,j,u⟩:=cl oM;have:=(ap _).2 ⟨b,j,u,rfl⟩;rw [c] at this;exact absurd this zDh,c0,⟨zFF 0,by omega⟩⟩ v oM (rS bp)
 rw [cg] at ar;unfold vH at ar;go_wp2_with fail;refine ar.mono ?_;clear ar;rintro c cN ⟨rfl,cH,bT,bc,bV,y⟩;have av:(aK t a).length=e:=by have:=cJ (l:=t) (k:=a) (by rw [aj];omega);have:=aj;omega
 have bR:TxM cN B cH gl gk Q rate bT (aG (aK t a)) (aH (aK x a) P) e bc bV:=by rw [c9];exact ⟨y.P.B,y.live,y.ag,y.right⟩
 have aE:=aFO bR av oM v bL cp (cm (Smp bV) λm=>(y.ci m).trans (cn m));unfold vT at aE;have ba:=y.lf;have bb:=y.bA;clear bR y;go_wp2_with fail;refine aE.mono ?_;clear aE;rintro c d6 ⟨rfl,cI,cK,cx,cs,ci,bA⟩;have ab:=(ba.trans bA);clear bA ba;go_wp2_with fail;go_ret;exact ⟨rfl,cI,⟨gk,Q,bT,aH (aK x a) P,bc,cK,by rw [av];exact cx,cs,by rw [av];exact ci,bb.1,by rw [av];have:=bb.2;omega⟩,ab⟩
def aHB (j:World) (a:Nat) (own:Nat->Nat) (b g aA i:Nat) (e:List UInt8) (f:Ending) (d:World):Prop:=
 f=.returned (.int .i64 0)/\∃c,StAt d a c b g aA i e/\LFS a b j d own c
def StAt.bl {k f b c g aA j own d p e} (a:StAt k b own c g aA j p) (n:LiveE f b d g e j) (i:LF b k f own d) (m:e.length<=895) (o:e.length<=aA):StAt f b d c g aA j e/\LFS b c k f own d:=
 ⟨⟨i.b.d a.a dC dC (λl=>l a.x),a.low,(i.H _ a.a.lt).trans a.x,n,m,o,a.max,a.r1,a.r2⟩,LFS.cr c i⟩
structure EdW (w W:World) (B:Nat) (own:Nat->Nat) (gs gl aA rate:Nat) (t:List UInt8) (kind p n:Int) (A:Option Addr) (m c:Nat):Prop where
 low:Below w.heap.size w W
 box:Bk W w.heap.size 32 #[(kind:Int),(p:Int),(n:Int),.slice A m c]
 st:StAt W B own gs gl aA rate t
 ap:Ap own gs w.heap.size
def EdW.mk' {a j own l k aA n o} (e i g b f c) (d:StAt a j own l k aA n o):
 EdW a (a.alloc (.cells #[(e:Int),(i:Int),(g:Int),.slice b f c] 32)) j own l k aA n o e i g b f c:=by
 have m:Below a.heap.size a (a.alloc (.cells #[(e:Int),(i:Int),(g:Int),.slice b f c] 32)):=bR.alloc nL _;exact ⟨m,kd a _ _,d.G (kb m),⟨d.fresh nL,by have:=d.a.lt;omega⟩⟩
def qL {d own e u aA y} (n) {m p} (l ab) {E o} (M j) {q} (A:StAt q d own e u aA y m) (H:m.length=n) (Z:ArgZ q d own e E o p) (aT:l<=n) (an:decide (aA < n+o)=j) (Y:j=false->n+o<=895):
 Calls prog 16 #[e,.agg #[(1:Int),(l:Int),(ab:Int),.slice E o M]] q λG av=>(j=true->G=.returned (.int .i64 3)/\VB d q av)/\(j=false->aHB q d own e u aA y (yQ m l p) G av):=by
 have a0:p.length=o:=by simpa using Z.1.1
 have r:=EdW.mk' 1 (l:Int) ab E o M A;have aN:=Z.b r.low;have aP:=LFS.j d e own r.low;have a4:=sD (B:=d) (own:=own) (gs:=e) (gl:=u) (aA:=aA) (rate:=y) (N:=n) (t:=m) l 0 r.st H;have ai:dK n (l:Int) 0=true:=zBz oM;rw [ai] at a4;have O:=r.box.cell 0;have aE:=r.box.cell 1;have aF:=r.box.cell 2;have X:=r.box.cell 3;have az:=r.low;have aR:=A.max;have aS:n<=aA:=zj A.len
 have aK:IntKind.i64.wrap (aA -n)=(aA:Int) -n:=zu
 have aM:decide ((o:Int) > aA -n)=j:=(decide_eq_decide.2 ⟨λ_=>by omega,λ_=>by omega⟩).trans an;have L:=r.st;have ac:=r.ap;have U:=r.box;clear A Z r ai aR aS;go_enter func16,ntmps16;go_wp2_with fail;refine a4.mono ?_;rintro G w1 ⟨rfl,rfl⟩;clear a4;go_wp2_with fail;generalize q.alloc (.cells #[(1:Int),(l:Int),(ab:Int),.slice E o M] 32)=w1 at*
 clear O aE aF X;have ad:=(λk (aa:VB d w1 k)=>(L.G aa.1).cb H);refine wp_region_any kR<|aQ (S:=(VB d)) (V:=(Vs [is q.heap.size,is (.int .i64 1),is (.bool true),is (.bool true),is (.pointer (some ⟨q.heap.size,3,none⟩)),is (.slice E o M),is (o:Int),is e,is e,is (.pointer (some ⟨e,1,none⟩)),is (aA:Int),is e,is e,is e,is u,is (n:Int),is (.int .i64 ((aA:Int) -n)),is (.bool j),is (.bool j),is (.bool j)])) [27,28,29,30,31,32,33,34,35,36,37,38,39,40,41,42,43,44,45,26] _ rfl kR vR (λ_ _=>VisK.trans) (dI tA0) ?_ ?_
 .refine aL<|pH 3 (.pointer (some q.heap.size))<|sC (λ_ k a _ _ _ b _ _ _ g=>?_) ?_
  .have b0:_=_:=b 0 27 kR rfl;replace a:(VB d) w1 k:=bD a;have J:=a.1.d U dC dC;have F:=J.cell 0;go_simp;exact g _ _ vR rfl
  refine pV 1 28<|pV 2 29<|gH 30 true 3 (.pointer (some q.heap.size))<|sG 30 true (λ_ k a _ _ _ b _ _ _ g=>?_) ?_
  .have b1:_=_:=b 4 31 kR rfl;replace a:(VB d) w1 k:=bD a;have J:=a.1.d U dC dC;have F:=J.cell 3;go_simp;exact g _ _ vR rfl
  refine gV 30 true 5 32<|gH 30 true 0 (.pointer (some e))<|gV 30 true 7 34<|gV 30 true 8 35<|sG 30 true (λ_ k a _ _ _ b _ _ _ g=>?_) ?_
  .have b3:_=_:=b 9 36 kR rfl;replace a:(VB d) w1 k:=bD a;have I:=a.1.d L.a dC dC;have F:=I.cell 1;go_simp;exact g _ _ vR rfl
  refine gH 30 true 0 (.pointer (some e))<|gV 30 true 11 38<|gV 30 true 12 39<|sG 30 true (λ_ k a _ _ _ b _ _ _ g=>?_) ?_
  .have b5:_=_:=b 13 40 kR rfl;replace a:(VB d) w1 k:=bD a;have I:=a.1.d L.a dC dC;have F:=I.cell 0;go_simp;exact g _ _ vR rfl
  refine sG 30 true (λ_ k a _ _ _ b _ _ _ g=>?_) ?_
  .have b6:_=_:=b 14 41 kR rfl;replace a:(VB d) w1 k:=bD a;go_simp;refine (ad k a).mono ?_;rintro G bh ⟨rfl,rfl⟩;exact g _ _ vR rfl
  refine sG 30 true (λ_ _ _ _ _ _ b _ _ _ g=>?_) ?_
  .have b4:_=_:=b 10 37 kR rfl;have b7:_=_:=b 15 42 kR rfl;go_simp;exact g _ _ vR (by first | rfl | exact congrArg (Value.int .i64) aK)
  refine sG 30 true (λ_ _ _ _ _ _ b _ _ _ g=>?_) ?_
  .have b2:_=_:=b 6 33 kR rfl;have b8:_=_:=b 16 43 kR rfl;go_simp;exact g _ _ vR (by first | rfl | exact congrArg Value.bool aM)
  refine pW 3 30 17 44<|pV 18 45 ?_;exact aB
 .intro z x a b;replace a:(VB d) w1 x:=bD a;have ae:z (.tmp 26)=.bool j:=b 19 26 rfl;simp only [zqq];rw [ae];clear b;clear ae;cases j
  .have bd:=Y rfl;clear Y;have aU:=L.G a.1;have a6:=LFS.i e own a;have a2:=a.1.d U dC dC;have O:=a2.cell 0;have X:=a2.cell 3;have ay:=(aP.trans a6);have aw:=(aN.step a6);clear a6 a ad;go_wp2_with fail;clear O X;go_loopw [6,7,65] (λ_ _ T wr=>∃(c:Nat) (D:Nat->Nat),c<=o/\T=.int .i64 c/\StAt wr d D e u aA y (yQ m l (p.take c))/\LFS d e x wr own D) (λ_ _ T _=>o -(intOf T).toNat)
   case atStart=>exact ⟨0,own,by omega,rfl,by rw [zDN,aLh];exact aU,LFS.refl _ _ _ _⟩
   case round=>
    obtain ⟨c,D,bf,rfl,v,C⟩:=hrel;have Q:l<=m.length:=(by rw [H];exact aT);by_cases am:c < o
    .obtain ⟨j,a1⟩:∃j,p[c]?=some j:=⟨_,zAa (by rw [a0];exact am)⟩;have aO:c < p.length:=(by rw [a0];exact am);have a8:(p.take c).length=c:=(by rw [zAj];omega);have a5:(yQ m l (p.take c)).length=n+c:=(by rw [uP (t:=m) _ Q,a8,H]);have P:=λk (aa:VB d wr k)=>aFL (w:=k) (B:=d) (own:=D) (gl:=u) (t:=(yQ m l (p.take c))) (rate:=y) (l+c) j (v.G aa.1).live (by rw [a5];omega) (by rw [a5];omega) v.r1 v.r2;have a7:=aLi (t:=m) (p.take c) j Q;rw [a8] at a7;have ao:p.take (c+1)=p.take c++ [j]:=(by rw [zAv,a1];rfl);unfold aD1 at P;rw [a7,<-ao] at P;obtain ⟨aD,aV,rfl,be,ah⟩:=((aw.step C).1).2 oM;have aZ:wr.cell? ⟨aD,aV+c,none⟩=some (.int .u8 j.toNat):=ah c _ (by rw [zAf,a1];rfl);have ag:=C.d a2 ac.x ac.ne dC dC;have O:=ag.cell 0;have aG:IntKind.i64.wrap (l+c)=((l+c:Nat):Int):=zu;have aj:(yQ m l (p.take (c+1))).length=n+(c+1):=(by rw [uP (t:=m) _ Q,zAj,H];omega);clear a7 ao a5 a8 a1 aO ah Q;go_wp2_with fail;refine wp_region_any kR<|cC (pre:=(λ_=>True)) (pJ:=(λK _=>K=.pointer (some u))) d 9 [83,84,85,86,87,88,89,90,91] (λ_=>False) 3 [] [is e,is e,is e,cO,is (.pointer (some ⟨q.heap.size,1,none⟩)),is (l:Int),is (c:Int),is (.int .i64 (l+c:Nat)),is (.int .u8 j.toNat)] _ rfl dC kR kR kR (trivial) (λ_ _ _ _ _=>trivial) (λ_ _ _ A _=>A) tA0 ?_ ?_
     .refine bB<|pH3 0 (.pointer (some e))<|pV3 0 83<|pV3 1 84<|sC3 (λ_ k a _ _ _ _ b _ _ _ g=>?_) ?_
      .replace a:VFB d (λ_=>False) wr k:=fD a;have b9:_=_:=b 2 85 kR rfl;have a9:=a.y (λ_ _ s=>s);have I:=a9.1.d v.a dC dC;have F:=I.cell 0;go_simp;exact g _ _ (lC (VFB.i vR)) rfl
      refine pH3 3 (.pointer (some q.heap.size))<|sC3 (λ_ k a _ _ _ _ b _ _ _ g=>?_) ?_
      .replace a:VFB d (λ_=>False) wr k:=fD a;have ba:_=_:=b 4 87 kR rfl;have a9:=a.y (λ_ _ s=>s);have J:=a9.1.d ag dC dC;have F:=J.cell 1;go_simp;exact g _ _ (aI vR) rfl
      refine pH3 6 (.int .i64 c)<|sC3 (λ_ _ _ _ _ _ _ b _ _ _ g=>?_) ?_
      .have bb:_=_:=b 5 88 kR rfl;have bc:_=_:=b 6 89 kR rfl;go_simp;exact g _ _ (aI vR) (by first | rfl | exact congrArg (Value.int .i64) aG)
      refine pH3 7 (.int .u8 j.toNat) ?_;exact aB
     .intro z x s a b af;replace a:VFB d (λ_=>False) wr x:=fD a;have aq:(λK _=>K=.pointer (some u)) (z (.tmp 86)) x:=b 3 86 dC rfl;have aH:z (.tmp 90)=.int .i64 (l+c:Nat):=b 7 90 dC rfl;have aJ:z (.tmp 91)=.int .u8 j.toNat:=b 8 91 dC rfl;obtain ⟨aX,au⟩:=af 3 dC;have ar:(λK _=>K=.pointer (some u)) aX x:=au;clear au af;simp only [zqq];rw [aH];rw [aJ];clear b;have R:=a.y (λ_ _ s=>s);rw [show z (.tmp 86)=_ from aq];clear ar a aq;change wpAny prog Region.Mode.any _ _ (1+s) (bT 9 10) _ x;rw [zCt 1 s];refine aY (f:=s) (i:=9) kR ?_;refine bJ rfl rfl ?_;generalize g:wpAny prog _ _ _ s _=K5;go_simp;refine (P x R).mono ?_;rintro G bg ⟨rfl,aW,ak,al⟩;subst g;refine bG kR ?_;have a3:=(v.G R.1).bl ak al (by rw [aj];omega) (by rw [aj];have:=of_decide_eq_false an;omega);have aC:=a3.1;have W:=(C.trans ((LFS.i e D R).trans a3.2));clear a3 ak al R v C P;go_wp2_with fail;go_roundw
      case rel=>exact ⟨c+1,aW,by omega,by go_num,aC,W⟩
      case measure=>exact zr
    .obtain rfl:c=o:=oM;rw [zAg (by rw [a0];exact zAs _)] at v;have W:=(ay.trans C);clear C;go_wp2_with fail;go_ret;exact ⟨rfl,D,v,W⟩
  .have ax:=(VisK.trans (kc az) a);clear a Y;go_wp2_with fail;go_ret;exact ⟨rfl,ax⟩
def sR {c own e o aA x C d b g} (L a0 O) {q} (y:StAt q c own e o aA x d) (R:TabW q) (F:0 < c) (G:d.length=C) (aG:b+g<=C):
 Calls prog 16 #[e,.agg #[(2:Int),(b:Int),(g:Int),.slice L a0 O]] q (aHB q c own e o aA x (d.take b++d.drop (b+g))):=by
 have n:=EdW.mk' 2 (b:Int) (g:Int) L a0 O y;have au:=LFS.j c e own n.low;have X:=sD (B:=c) (own:=own) (gs:=e) (gl:=o) (aA:=aA) (rate:=x) (N:=C) (t:=d) b g n.st G;have a7:dK C (b:Int) (g:Int)=true:=zBz oM;rw [a7] at X;have P:=n.box.cell 0;have al:=n.box.cell 1;have Q:=n.box.cell 2;have am:=n.box.cell 3;have av:=y.n127;have ab:=y.len;rw [G] at av ab;have a5:=R.below n.low R.pos;have aj:=n.st;have a1:=n.ap;have a2:=n.box;clear y n a7 R;go_enter func16,ntmps16;go_wp2_with fail;refine X.mono ?_;rintro an w1 ⟨rfl,rfl⟩;clear X;go_wp2_with fail;generalize q.alloc (.cells #[(2:Int),(b:Int),(g:Int),.slice L a0 O] 32)=w1 at*
 clear P al Q am;refine wp_region_any kR<|aQ (S:=(VB c)) (V:=(Vs [is q.heap.size,is (.int .i64 2),is (.bool false),is (.bool false),is undef,is undef,is undef,is undef,is undef,is undef,is undef,is undef,is undef,is undef,is undef,is undef,is undef,is undef,is (.bool false),is (.bool false)])) [27,28,29,30,31,32,33,34,35,36,37,38,39,40,41,42,43,44,45,26] _ rfl kR vR (λ_ _=>VisK.trans) (dI tA0) ?_ ?_
 .refine aL<|pH 3 (.pointer (some q.heap.size))<|sC (λ_ s a _ _ _ l _ _ _ v=>?_) ?_
  .have ay:_=_:=l 0 27 kR rfl;replace a:(VB c) w1 s:=bD a;have U:=a.1.d a2 dC dC;have a3:=U.cell 0;go_simp;exact v _ _ vR rfl
  refine pV 1 28<|pV 2 29<|aD ?_ ?_;exact sK 30 false λ_=>vR;refine aD ?_ ?_;exact sK 30 false λ_=>vR;refine aD ?_ ?_;exact sK 30 false λ_=>vR;refine aD ?_ ?_;exact sK 30 false λ_=>vR;refine aD ?_ ?_;exact sK 30 false λ_=>vR;refine aD ?_ ?_;exact sK 30 false λ_=>vR;refine aD ?_ ?_;exact sK 30 false λ_=>vR;refine aD ?_ ?_;exact sK 30 false λ_=>vR;refine aD ?_ ?_;exact sK 30 false λ_=>vR;refine aD ?_ ?_;exact sK 30 false λ_=>vR;refine aD ?_ ?_;exact sK 30 false λ_=>vR;refine aD ?_ ?_;exact sK 30 false λ_=>vR;refine aD ?_ ?_;exact sK 30 false λ_=>vR;refine aD ?_ ?_;exact sK 30 false λ_=>vR;refine pW 3 30 17 44<|pV 18 45 ?_;exact aB
 .intro D u a l;replace a:(VB c) w1 u:=bD a;have a4:D (.tmp 26)=.bool false:=l 19 26 rfl;simp only [zqq];rw [a4];clear l;have ad:=aj.G a.1;have aa:=LFS.i e own a;have T:=a.1.d a2 dC dC;have P:=T.cell 0;have Q:=T.cell 2;have ai:=(au.trans aa);have ah:=(a5.G a F a5.pos);clear aa a a4;go_wp2_with fail;clear P Q;go_loopw [52] (λK wr=>∃(k:Nat) (A:Nat->Nat),k<=g/\K=.int .i64 k/\StAt wr c A e o aA x (d.take b++d.drop (b+k))/\LFS c e u wr own A) (λK _=>g -(intOf K).toNat)
  case atStart=>exact ⟨0,own,by omega,rfl,by rw [zBq,zAu];exact ad,LFS.refl _ _ _ _⟩
  case round=>
   obtain ⟨k,A,aE,rfl,r,z⟩:=hrel;by_cases aF:k < g
   .have ac:b+k < d.length:=(by rw [G];omega);have I:=cut_len d (p:=b) (j:=k) oM;have Y:=cut_len d (p:=b) (j:=k+1) oM;rw [G] at I Y;have H:=λs (g:VB c wr s)=>aFM (w:=s) (B:=c) (own:=A) (gl:=o) (t:=(d.take b++d.drop (b+k))) (rate:=x) b (r.G g.1).live ((ah.below (z.below ad.size) F).G g F (zj r.size)) F (by rw [I];omega) (by rw [I];omega) r.r1 r.r2;unfold aD1 at H;rw [aLM (t:=d) ac] at H;have aq:=z.d T a1.x a1.ne dC dC;clear I ac;go_wp2_with fail;refine wp_region_any kR<|cC (pre:=(λ_=>True)) (pJ:=(λE _=>E=.pointer (some o))) c 6 [54,55,56,57,58,59] (λ_=>False) 3 [] [is e,is e,is e,cO,is (.pointer (some ⟨q.heap.size,1,none⟩)),is (b:Int)] _ rfl dC kR kR kR (trivial) (λ_ _ _ _ _=>trivial) (λ_ _ _ y _=>y) tA0 ?_ ?_
    .refine bB<|pH3 0 (.pointer (some e))<|pV3 0 54<|pV3 1 55<|sC3 (λ_ s a _ _ _ _ l _ _ _ v=>?_) ?_
     .replace a:VFB c (λ_=>False) wr s:=fD a;have az:_=_:=l 2 56 kR rfl;have Z:=a.y (λ_ _ m=>m);have ar:=Z.1.d r.a dC dC;have a3:=ar.cell 0;go_simp;exact v _ _ (lC (VFB.i vR)) rfl
     refine pH3 3 (.pointer (some q.heap.size))<|sC3 (λ_ s a _ _ _ _ l _ _ _ v=>?_) ?_
     .replace a:VFB c (λ_=>False) wr s:=fD a;have aC:_=_:=l 4 58 kR rfl;have Z:=a.y (λ_ _ m=>m);have U:=Z.1.d aq dC dC;have a3:=U.cell 1;go_simp;exact v _ _ (aI vR) rfl
     exact aB
    .intro D u m a l a6;replace a:VFB c (λ_=>False) wr u:=fD a;have ae:(λE _=>E=.pointer (some o)) (D (.tmp 57)) u:=l 3 57 dC rfl;have ao:D (.tmp 59)=.int .i64 b:=l 5 59 dC rfl;obtain ⟨ax,ag⟩:=a6 3 dC;have af:(λE _=>E=.pointer (some o)) ax u:=ag;clear ag a6;simp only [zqq];rw [ao];clear l;have J:=a.y (λ_ _ m=>m);rw [show D (.tmp 57)=_ from ae];clear af a ae;change wpAny prog Region.Mode.any _ _ (1+m) (bT 6 7) _ u;rw [zCt 1 m];refine aY (f:=m) (i:=6) kR ?_;refine bJ rfl rfl ?_;generalize v:wpAny prog _ _ _ m _=K5;go_simp;refine (H u J).mono ?_;rintro an aH ⟨rfl,aw,a8,a9⟩;subst v;refine bG kR ?_;have W:=(r.G J.1).bl a8 a9 (by rw [Y];omega) (by rw [Y];have:=ab;omega);have ak:=W.1;have M:=(z.trans ((LFS.i e A J).trans W.2));clear W a8 a9 J r z H;go_wp2_with fail;go_roundw
     case rel=>exact ⟨k+1,aw,by omega,by go_num,ak,M⟩
     case measure=>exact zr
   .obtain rfl:k=g:=oM;have M:=(ai.trans z);clear z;go_wp2_with fail;go_ret;exact ⟨rfl,A,r,M⟩
def vY {u:Program} {b:Array Oper} {v:Exit->Act->World->Prop} {k:Region.Mode} (e:Nat) (y:List Nat) (l:Nat->Prop) (g:Nat) (E:List Nat) {s:World->Prop} (r:Value->World->Prop) (q:List (Value->World->Prop)) (p:Act) {m:World} (J:(b.toList.take e).filterMap (·.dst)=y) (M:e<=b.size) (L:kL k b p.tmps.size=true) (S:((List.range b.size).all λd=>decide (d < e)||(List.range e).all λa=>upB k b b.size d a)=true) (P:(E.all λa=>a==g||upB k b b.size g a)=true) (O:s m) (N:∀c i,s c->Keep l m c->Grow c i->s i) (I:Stb r) (Q:∀U∈q,tO l U) (R:∀j D,j < e->b[j]?=some D->dN u b v k (Keep l m) (yM l g) (λa c=>E.contains a=true->s c) (VsJ g r q) p j D) (K:∀(z:Operand->Value) c f,Keep l m c->(∀a x,a < e->((b[a]?).bind (·.dst))=some x->VsJ g r q a (z (.tmp x)) c)->(∀a,a < e->∃t,VsJ g r q a t c)->wpAny u k b v (b.size - e+f) (bT e b.size) (dJ z y p) c):
 wpAny u k b v b.size (Array.replicate b.size false) p m:=by
 refine xM J M L S (ke _ _) (λ_ _=>O) (λj c i _ G d=>G.trans (kZ d)) (λa j c i _ w T n H d B=>?_) (λa j t c i _ w _ o _ d=>?_) R K;by_cases C:j=g;exfalso;subst C;have A:=zBf.1 P a (by simpa using B);simp only [T,zGn,zCr] at A;exact w A;exact N c i (n B) H (d.2 C);unfold VsJ at o⊢;by_cases n:a=g;rw [zBx n] at o⊢;exact I t c i o (d.2 λF=>w (n.trans F.symm));rw [zBw n] at o⊢;exact zU Q a t c i o (kZ d)
def aMc (j:World) (a:Nat) (own:Nat->Nat) (b aA g:Nat) (i:List UInt8) (e:Ending) (d:World):Prop:=
 e=.returned (.int .i64 0)/\∃c f,StAt d a c b f aA g i/\LFS a b j d own c
def aA4 {r own b a6 M ak aA e} (B) {y} (s) {al d q g} (j:StAt g r own b a6 M ak al) (ag:IsSuf (aG d) q) (U:d.length<=895) (W:1<=e) (X:e<=64) (S:d.length<=aA) (T:aA<=2147483648) (K:(fC (aH (aG d) q) q aA e d.length).length=y) (V:Rd g g.heap.size 1 B y ((fC (aH (aG d) q) q aA e d.length).map bv)) (ac:y<=s) (ad:s<=maxLen):
 Calls prog 21 #[b,.slice B y s] g (aMc g r own b aA e d):=by
 have w:=aDJ B s aA g ag U W X S T (by rw [K];exact V) nL (by rw [K];exact ac) ad;rw [K] at w;unfold aBj at w;have C:=j;clear V j;go_enter func21,ntmps21;go_wp2_with fail;refine w.mono ?_;rintro au w1 ⟨n,rfl,⟨Z,Y⟩,x⟩;have aD:=x.1.size;have I:=x.1.d C.a dC dC;have Q:=C.a.lt;obtain ⟨u,af⟩:=eqx w1.heap.size;have m:Below w1.heap.size w1 (w1.alloc (.cells #[(aA:Int),(e:Int),(d.length:Int)] 102)):=bR.alloc nL _;have R:Bk (w1.alloc (.cells #[(aA:Int),(e:Int),(d.length:Int)] 102)) u 102 #[(aA:Int),(e:Int),(d.length:Int)]:=af ▸ kd _ _ _;have P:=I.below m I.lt;have D:=(Y.b (kb m));have a3:=(show ¬u=b by omega);clear Y w I;unfold uV;go_wp2_with fail;generalize a8:w1.alloc (.cells #[(aA:Int),(e:Int),(d.length:Int)] 102)=W1 at D m P R⊢;clear a8;refine wp_region_any kR<|vY 10 [18,19,20,21,22,23,24,25,26] (λa=>a=b) 7 [7] (λ_ z=>Bk z b 53 #[n,.int .i64 M]) [is b,is b,is n,is u,is (aA:Int),is b,is b,cO,is b,is (.pointer (some ⟨b,1,none⟩))] _ rfl dC kR kR kR (P) (λw1 z j _ ae=>kf j ae j.lt) (λ_ _ _ j ah=>kf j ah j.lt) tA1 ?_ ?_
 .refine bB<|pH3 0 (.pointer (some b))<|pH3 0 (.pointer (some b))<|pH3 5 (.pointer (some n))<|pH3 6 (.pointer (some u))<|sC3 (λ_ an l _ _ _ _ k _ _ _ o=>?_) ?_
  .replace l:Keep (λa=>a=b) W1 an:=kD l;have aw:_=_:=k 3 21 kR rfl;have ar:=(Keep.d l R a3).cell 0;go_simp;exact kq o rfl
  refine pV3 0 18<|pV3 5 23<|sC3 (λ_ _ _ a7 _ _ _ k _ _ _ o=>?_) ?_
  .have L:=a7 rfl;have ax:_=_:=k 6 24 kR rfl;have av:_=_:=k 2 20 kR rfl;have az:=L.frozen 0;have aq:=L.cell 0;go_simp;exact o (.bool true) _ (aW (ka (F:=λa=>a=b) (ke _ _) (p:=b) (.inl rfl) _)) (L.set 0 _)
  refine pV3 1 19<|pV3 8 25 ?_;exact aB
 .intro N A c l k O;replace l:Keep (λa=>a=b) W1 A:=kD l;have a4:N (.tmp 22)=.int .i64 aA:=k 4 22 dC rfl;have a5:N (.tmp 26)=.pointer (some ⟨b,1,none⟩):=k 9 26 dC rfl;simp only [zqq];rw [a4];rw [a5];clear k;obtain ⟨am,a0⟩:=O 7 dC;have aj:(λ_ z=>Bk z b 53 #[n,.int .i64 M]) am A:=a0;clear a0 O;have J:=aj;have ay:=J.frozen 1;have ap:=J.cell 1;have a2:=l;change wpAny prog Region.Mode.any _ _ (1+c) (bT 10 11) _ A;rw [zCt 1 c];refine aY (f:=c) (i:=10) kR ?_;refine bJ rfl rfl ?_;generalize o:wpAny prog _ _ _ c _=K5;go_simp;subst o;refine bG kR ?_;have v:Keep (λa=>a=b) W1 (A.setCell ⟨b,1,none⟩ (.int .i64 aA)):=a2.setCell (p:=⟨b,1,none⟩) (.inl rfl) _;have a9:=J.set 1 (.int .i64 aA);have ao:=v;have a1:=a9;have G:=C;go_wp2_with fail;go_ret;have aC:=m.size;have ab:=G.size;have aa:=D.q;have E:∀a,a < g.heap.size->Z a=0:=λa H=>zFi λc=>by have:=(aa a oM).1;omega
  refine ⟨rfl,Z,n,⟨a1,G.low,E _ Q,(D.bz v (λa c=>by have t:a=b:=c;subst t;exact E _ Q)).low ab,U,S,T,W,X⟩,⟨λa H c=>absurd (E a H) c,?_,?_⟩⟩;exact ((VisF.C x.1).trans' (VisF.C (kb m)) (λa _ c=>c)).trans' (VisF.O v) (λa _ c=>.inr c)
  .have ai:Keep (λa=>r<=a) g w1:=x.2.mono λa H c=>by have t:g.heap.size<=a:=c;show r<=a;omega
   exact (ai.trans (kF m)).trans (v.mono λa _ c=>by have t:a=b:=c;subst t;exact G.low)
end Go.Proofs.YtlghmcogeipojaaGreatDoor
