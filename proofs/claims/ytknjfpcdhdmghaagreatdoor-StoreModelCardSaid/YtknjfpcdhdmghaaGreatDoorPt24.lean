/- Lemmas of the walk. Conditions: each its own. -/
import Derived.Test.YtknjfpcdhdmghaaGreatDoorPt21
import Derived.Test.YtknjfpcdhdmghaaGreatDoorPt22
set_option linter.all false
set_option maxRecDepth 100000
set_option maxHeartbeats 4000000
open Go.Proofs.Tryz
namespace Go.Proofs.YtknjfpcdhdmghaaGreatDoor
section
open Go.RowKit
def WalkT (w:World) (B gk:Nat) (L T:List Nat):Prop:=
 ∃b a,Bk w gk 152 #[.pointer (some ⟨b,0,none⟩),.pointer (some ⟨a,0,none⟩)]/\WaveAt w B b L/\Bk w a 207 (tcells T)
def WalkT.b {w w' B gk L T} (d:WalkT w B gk L T) (a:Vis w w'):WalkT w' B gk L T:=by
 obtain ⟨c,b,e,f,g⟩:=d;exact ⟨c,b,a.d e dC dC,f.b a,a.d g dC dC⟩
def uL (L T:List Nat) (a b:Nat):Nat:=T.countP (λc=>decide (c < a))+(L.take b).count a
def aDy {B gk L T w} (c:WalkT w B gk L T):
 Calls prog 65 #[gk] w λa w'=>a=.returned (.int .i64 L.length)/\w=w':=by
 obtain ⟨i,g,b,d,e⟩:=c;have f:=b.cell 0;clear b e;go_enter func65,ntmps65;go_wp2_with fail;refine (yD d).mono ?_;rintro a w' ⟨rfl,rfl⟩;go_wp2_with fail;go_ret;exact ⟨rfl,rfl⟩
def aAW {B gk:Nat} {L T} {s:Nat} {w} (f:WalkT w B gk L T) (l:s < 257) (k:T.length<=1000):
 Calls prog 131 #[gk,(s:Int)] w λb w'=>b=.returned (.int .i64 (T.countP (λa=>decide (a < s)):Nat))/\Below w.heap.size w w':=by
 obtain ⟨o,n,c,g,i⟩:=f;have m:=c.cell 1;clear c g;go_enter func131,ntmps131;go_wp2_with fail;refine (lR i l k).mono ?_;rintro b w' ⟨rfl,j⟩;obtain ⟨e,d⟩:∃e,T.countP (λa=>decide (a < s))=e:=⟨_,rfl⟩;rw [d];go_wp2_with fail;go_ret;exact ⟨by rw [d];rfl,j⟩
def aFg {B gk L T i w} (c:WalkT w B gk L T) (d:i < L.length):
 Calls prog 128 #[gk,(i:Int)] w λa w'=>a=.returned (.bool true)/\w=w':=by
 obtain ⟨e,b⟩:=eqx L.length;rw [b] at d;have f:(i:Int) < e:=oM;go_enter func128,ntmps128;go_wp2_with fail;refine (aDy c).mono ?_;rintro a w' ⟨rfl,rfl⟩;rw [b];go_wp2_with fail;go_ret;exact ⟨rfl,rfl⟩
def sO {B gk:Nat} {L T} {d b:Nat} {w} (z:WalkT w B gk L T) (t:L[d]?=some b) (q:∀y∈L,y < 257) (H:L.length<=1000) (E:T.length<=1000):
 Calls prog 126 #[gk,(d:Int)] w λg w'=>g=.returned (.int .i64 (uL L T b d:Nat))/\VB B w w':=by
 have r:=(zAc.1 t).1;have I:b < 257:=q _ (zAd t);have D:=z;obtain ⟨f,ab,p,A,U⟩:=z;have K:=p.cell 0;have ae:=p.lt;obtain ⟨k,u⟩:=eqx (uL L T b d);obtain ⟨n,v⟩:∃a1,T.countP (λy=>decide (y < b))=a1:=⟨_,rfl⟩;obtain ⟨o,x⟩:=eqx ((L.take d).count b);have Y:n+o=k:=by rw [<-v,<-x,<-u];rfl
 have ac:n<=1000:=by rw [<-v];exact zAk zBh E
 have ad:o<=1000:=by rw [<-x];exact zAk zBv (by rw [zAj];omega)
 rw [u];have J:=E;clear U u;go_enter func126,ntmps126;go_wp2_with fail;refine (aFg (B:=B) (gk:=gk) (L:=L) (T:=T) (i:=d) (w:=w) D r).mono ?_;rintro g w1 ⟨rfl,rfl⟩;go_wp2_with fail;refine (eR (B:=B) (gv:=f) (L:=L) (w:=w) d b A r (zAc.1 t).2 q H).mono ?_;rintro g l ⟨rfl,m⟩;have W:=D.b m.1;have O:=m.1.d p dC dC;have Q:=A.b m.1;clear K;go_wp2_with fail;refine wp_region_any kR<|aQ (S:=(VB B)) (V:=(Vs [is gk,is (b:Int),is (n:Int),is gk,is gk,is gk,is f,is (d:Int),is (b:Int),is (o:Int),is (k:Int),is (k:Int)])) [20,21,22,23,24,25,26,27,28,29,30,4] _ rfl kR vR (λ_ _=>VisK.trans) (dI tA0) ?_ ?_
 .refine aL<|pH 0 (.pointer (some gk))<|pH 5 (.int .i64 b)<|sC (λ_ e a _ _ _ c _ _ _ j=>?_) ?_
  .have a4:_=_:=c 0 20 kR rfl;have a5:_=_:=c 1 21 kR rfl;replace a:(VB B) l e:=bD a;go_simp;refine (aAW (B:=B) (gk:=gk) (L:=L) (T:=T) (s:=b) (w:=e) (W.b a.1) I J).mono ?_;rintro g a3 ⟨rfl,X⟩;rw [v];exact j _ _ (kc X) rfl
  refine pH 0 (.pointer (some gk))<|pV 3 23<|pV 4 24<|pL 5 25 (λe a=>have a:(VB B) l e:=bD a;(((a.1.d O dC dC).cell 0).trans rfl:e.cell? gk=some (.pointer (some f)))) ?_;refine pH 1 (.int .i64 d)<|pH 5 (.int .i64 b)<|sC (λ_ e a _ _ _ c _ _ _ j=>?_) ?_
  .have a7:_=_:=c 6 26 kR rfl;have a8:_=_:=c 7 27 kR rfl;have a9:_=_:=c 8 28 kR rfl;replace a:(VB B) l e:=bD a;go_simp;refine (iZ (B:=B) (gv:=f) (L:=L) (s:=b) (w:=e) d (Q.b a.1) I (zCm r) q H).mono ?_;rintro g a3 ⟨rfl,a0⟩;rw [x];exact j _ _ a0 rfl
  refine sC (λ_ _ _ _ _ _ c _ _ _ j=>?_) ?_
  .have a6:_=_:=c 2 22 kR rfl;have aa:_=_:=c 9 29 kR rfl;have af:IntKind.i64.wrap (n+o)=(k:Int):=(by rw [wI0];have:=Y;omega);go_simp;exact j _ _ vR rfl
  refine pV 10 30 ?_;exact aB
 .intro N a2 a c;replace a:(VB B) l a2:=bD a;have M:N (.tmp 4)=.int .i64 k:=c 11 4 rfl;simp only [zqq];rw [M];clear c;have Z:=m.trans a;go_wp2_with fail;go_ret;exact ⟨rfl,Z⟩
def WalkE (w:World) (B:Nat) (own:Nat->Nat) (gk:Nat) (L T:List Nat):Prop:=
 ∃b a,Bk w gk 152 #[.pointer (some ⟨b,0,none⟩),.pointer (some ⟨a,0,none⟩)]/\own gk=2/\WaveE w B own b L/\Bk w a 207 (tcells T)/\own a=2
section
variable {w w' : World} {B : Nat} {own own' : Nat -> Nat} {gk : Nat} {L T : List Nat}
def WalkE.dg (c:WalkE w B own gk L T):WalkT w B gk L T:=by
 obtain ⟨b,a,d,_,e,f,_⟩:=c;exact ⟨b,a,d,e.at,f⟩
def WalkE.at (d:WalkE w B own gk L T) (g:T.Perm L):WalkAt w B gk L:=by
 obtain ⟨c,b,e,_,f,a,_⟩:=d;rw [xO g] at a;exact ⟨c,b,e,f.at,a⟩
def WalkE.b (d:WalkE w B own gk L T) (a:Vis w w'):WalkE w' B own gk L T:=by
 obtain ⟨c,b,e,f,g,i,j⟩:=d;exact ⟨c,b,a.d e dC dC,f,g.b a,a.d i dC dC,j⟩
def WalkE.m (g:WalkE w B own gk L T) {H} (d:Keep H w w') (c:∀a,H a->own a≠2/\own a < 16):WalkE w' B own gk L T:=by
 obtain ⟨f,e,i,j,k,l,m⟩:=g;exact ⟨f,e,d.d i (λb=>by have:=c _ b;omega),j,k.m d c,d.d l (λb=>by have:=c _ b;omega),m⟩
def WalkE.aq (k:WalkE w B own gk L T) (b:∀a,a < w.heap.size->2<=own a->own' a=own a) (l:∀a,own' a≠0->B<=a/\a < w.heap.size):WalkE w B own' gk L T:=by
 obtain ⟨j,i,c,e,f,d,g⟩:=k;exact ⟨j,i,c,by rw [b _ c.lt oM];exact e,f.aq b l,d,by rw [b _ d.lt oM];exact g⟩
def WalkE.dl {a} (j:WalkE w B own gk L T) (k:T.Perm a):WalkE w B own gk L a:=by
 obtain ⟨i,g,c,d,e,b,f⟩:=j;rw [xO k] at b;exact ⟨i,g,c,d,e,b,f⟩
def WaveE.q (b:WaveE w B own gk L):∀a,own a≠0->B<=a/\a < w.heap.size:=by
 obtain ⟨c,d,b⟩:=b;exact b.q
def WalkE.q (c:WalkE w B own gk L T):∀a,own a≠0->B<=a/\a < w.heap.size:=by
 obtain ⟨j,i,d,e,b,f,g⟩:=c;exact b.q
end
structure Grew (w w':World) (own own':Nat->Nat):Prop where
 H:∀b,b < w.heap.size->own' b=own b
 new:∀b,w.heap.size<=b->own' b≠1
 keep:Keep (λb=>own b=2∨16<=own b) w w'
def Grew.refl {w own} (b:∀a,own a≠0->a < w.heap.size):Grew w w own own:=⟨λ_ _=>rfl,λa d c=>by have:=b a oM;omega,ke _ _⟩
def Grew.trans {w w1 w' own e own'} (b:Grew w w1 own e) (d:Grew w1 w' e own'):Grew w w' own own':=by
 have i:=b.keep.size;refine ⟨λa c=>(d.H a oM).trans (b.H a c),λa c=>?_,b.keep.trans' d.keep λa c g=>by rw [<-b.H a c];exact g⟩;by_cases f:a < w1.heap.size;rw [d.H a f];exact b.new a c;exact d.new a oM
def Grew.i {B:Nat} {w w' own} (c:Keep (λa=>own a=2∨16<=own a) w w') (b:∀a,own a≠0->a < w.heap.size):Grew w w' own own:=⟨λ_ _=>rfl,λa e d=>by have:=b a oM;omega,c⟩
def iL {B gk:Nat} {own L T} (i:Nat) {s:Nat} {w} (b:WalkE w B own gk L T) (K:s < 257) (I:i<=L.length) (y:∀M∈L,M < 257) (J:L.length<=895):
 Calls prog 118 #[gk,(i:Int),(s:Int)] w λl w'=>l=.returned (.tuple #[])/\∃own',WalkE w' B own' gk (aT L i s) T/\Grew w w' own own':=by
 obtain ⟨c,m,d,u,e,j,v⟩:=b;have t:w.cell? gk=some (.pointer (some c)):=(d.cell 0).trans rfl;have A:=d.lt;have H:own c=2:=by obtain ⟨k,r,b⟩:=e;exact b.base.2
 have D:gk≠c:=by obtain ⟨k,r,b⟩:=e;exact Bk.ne d b.a dC
 have E:m≠c:=by obtain ⟨k,r,b⟩:=e;exact Bk.ne j b.a dC
 go_enter func118,ntmps118;go_wp2_with fail;refine (aAS e K I y J).mono ?_;rintro l w1 ⟨rfl,own',q,g,o,f⟩;have n:=f.d d (λa=>by rcases a with a | a;exact D a;omega);have p:=f.d j (λa=>by rcases a with a | a;exact E a;omega);have z:Grew w w1 own own':=⟨g,o,f.mono λN _ a=>by rcases a with a | a;left;rw [a,H];right;exact a⟩;have x:WalkE w1 B own' gk (aT L i s) T:=⟨c,m,n,by rw [g _ A];exact u,q,p,by rw [g _ j.lt];exact v⟩;clear q g o f n p t;go_wp2_with fail;go_end0;exact ⟨rfl,own',x,z⟩
def iM {B gk:Nat} {own L T} {k s:Nat} {w} (b:WalkE w B own gk L T) (I:L[k]?=some s) (y:∀K∈L,K < 257) (J:L.length<=896):
 Calls prog 109 #[gk,(k:Int)] w λl w'=>l=.returned (.int .i64 s)/\∃own',WalkE w' B own' gk (aK L k) T/\Grew w w' own own':=by
 obtain ⟨c,m,d,u,e,i,v⟩:=b;have t:w.cell? gk=some (.pointer (some c)):=(d.cell 0).trans rfl;have A:=d.lt;have H:own c=2:=by obtain ⟨j,r,b⟩:=e;exact b.base.2
 have D:gk≠c:=by obtain ⟨j,r,b⟩:=e;exact Bk.ne d b.a dC
 have E:m≠c:=by obtain ⟨j,r,b⟩:=e;exact Bk.ne i b.a dC
 go_enter func109,ntmps109;go_wp2_with fail;refine (aAT e I y J).mono ?_;rintro l w1 ⟨rfl,own',q,g,o,f⟩;have n:=f.d d (λa=>by rcases a with a | a;exact D a;omega);have p:=f.d i (λa=>by rcases a with a | a;exact E a;omega);have z:Grew w w1 own own':=⟨g,o,f.mono λM _ a=>by rcases a with a | a;left;rw [a,H];right;exact a⟩;have x:WalkE w1 B own' gk (aK L k) T:=⟨c,m,n,by rw [g _ A];exact u,q,p,by rw [g _ i.lt];exact v⟩;clear q g o f n p t;go_wp2_with fail;go_ret;exact ⟨rfl,own',x,z⟩
def lQ {B gk:Nat} {own L T} {a u c:Nat} {w} (o:WalkE w B own gk L T) (l:L[a]?=some u) (r:c < 257) (k:∀v∈L,v < 257) (q:L.length<=896):
 Calls prog 108 #[gk,(a:Int),(c:Int)] w λb w'=>b=.returned (.tuple #[])/\∃own',WalkE w' B own' gk (L.set a c) T/\Grew w w' own own':=by
 have d:=(zAc.1 l).1;have x:=cJ d;have s:aT (aK L a) a c=L.set a c:=by
  apply zDs;intro e;rw [jX _ _ oM,zBm];by_cases f:e < a
  .rw [zBx f,zBw oM,eQ d,zBx f]
  .rw [zBw f];by_cases g:e=a
   .subst g;rw [zBx rfl,zBx rfl,zBx d]
   .rw [zBw g,zBw (λb=>g b.symm),eQ d,zBw oM,show e - 1+1=e by omega]
 go_enter func108,ntmps108;go_wp2_with fail;refine (iM o l k q).mono ?_;rintro b w1 ⟨rfl,y,p,n⟩;go_wp2_with fail;refine (iL a p r oM (rS k) oM).mono ?_;rintro b z ⟨rfl,t,j,i⟩;rw [s] at j;have m:=(n.trans i);clear i;go_wp2_with fail;go_end0;exact ⟨rfl,t,j,m⟩
def pD {B gk:Nat} {own L T} {k:Nat} {w} (b:WalkE w B own gk L T) (K:k < 257) (A:T.length<=1000):
 Calls prog 110 #[gk,(k:Int),(1:Int)] w λd w'=>d=.returned (.tuple #[])/\WalkE w' B own gk L (T++ [k])/\Grew w w' own own:=by
 have D:=b.q;obtain ⟨l,e,g,x,y,f,m⟩:=b;have O:w.cell? ⟨gk,1,none⟩=some (.pointer (some e)):=(g.cell 1).trans rfl;have Q:=g.lt;have H:gk≠e:=Bk.ne g f dC;go_enter func110,ntmps110;go_wp2_with fail;refine (vE f K A).mono ?_;rintro d w1 ⟨rfl,ht,c⟩;have n:=c.d g H;have p:WaveE w1 B own l L:=by
  obtain ⟨q,N,b⟩:=y;refine ⟨q,N,c.d b.a (Bk.ne b.a f dC),b.base,λlv I=>?_,λa i=>⟨(b.q a i).1,zAl (b.q a i).2 c.size⟩⟩;obtain ⟨G,t,u,v⟩:=b.rows lv I;exact ⟨G,aC t λa r _ j=>c.d j (Bk.ne j f dC),u,λM J=>(v M J).keep c λa S r o j _ d=>by
   have s:a=e:=d;subst s;rw [(aU j f).1] at o;exact absurd o dC⟩
 have z:WalkE w1 B own gk L (T++ [k]):=⟨l,e,n,x,p,ht,m⟩;have E:Grew w w1 own own:=Grew.i (B:=B) (c.mono λa _ d=>by left;rw [show a=e from d,m]) λa i=>(D a i).2;clear ht c n p;go_wp2_with fail;go_end0;exact ⟨rfl,z,E⟩
def nK {B gk own L T k l w} (b:WalkE w B own gk L T) (D:T.Perm (l::k)) (N:l < 257) (E:T.length<=1000):
 Calls prog 110 #[gk,(l:Int),(-1:Int)] w λd w'=>d=.returned (.tuple #[])/\WalkE w' B own gk L k/\Grew w w' own own:=by
 have H:=b.q;obtain ⟨m,e,g,y,z,f,n⟩:=b;have S:w.cell? ⟨gk,1,none⟩=some (.pointer (some e)):=(g.cell 1).trans rfl;have U:=g.lt;have J:gk≠e:=Bk.ne g f dC;go_enter func110,ntmps110;go_wp2_with fail;refine (aDH D f N E).mono ?_;rintro d w1 ⟨rfl,ht,c⟩;have o:=c.d g J;have q:WaveE w1 B own m L:=by
  obtain ⟨r,Q,b⟩:=z;refine ⟨r,Q,c.d b.a (Bk.ne b.a f dC),b.base,λlv K=>?_,λa i=>⟨(b.q a i).1,zAl (b.q a i).2 c.size⟩⟩;obtain ⟨G,u,v,x⟩:=b.rows lv K;exact ⟨G,aC u λa s _ j=>c.d j (Bk.ne j f dC),v,λO M=>(x O M).keep c λa V s p j _ d=>by
   have t:a=e:=d;subst t;rw [(aU j f).1] at p;exact absurd p dC⟩
 have A:WalkE w1 B own gk L k:=⟨m,e,o,y,q,ht,n⟩;have I:Grew w w1 own own:=Grew.i (B:=B) (c.mono λa _ d=>by left;rw [show a=e from d,n]) λa i=>(H a i).2;clear ht c o q;go_wp2_with fail;go_end0;exact ⟨rfl,A,I⟩
structure PermX (w:World) (F:Nat->Prop) (gp ga:Nat) (vl vo vt vf:Value) (R P:Nat) (ks:List Nat) (C:List (Nat×Nat)) (tk:List Bool) (fr:List Nat):Prop where
 at_:PermAt w 0 gp ga vl vo vt vf R P ks C tk fr
 fp:F gp
 fa:F ga
 fl:OwnF F vl
 fo:OwnF F vo
 ft:OwnF F vt
 ff:OwnF F vf
 nd:ks.Nodup
 an:tk.length=C.length
 tkk:∀k,tk[k]?=some true↔k∈ks
 a8:fr.Nodup
 am:∀k,k∈fr↔tk[k]?=some false
 sz:C.length<=1000
def PermE (w:World) (F:Nat->Prop) (gp R P:Nat) (pr:List (Nat×Nat)):Prop:=
 (∃ga vl vo vt vf ks C tk fr,PermX w F gp ga vl vo vt vf R P ks C tk fr/\pr=ks.map λa=>(aF C a,aS C a))/\pr.Pairwise (λc d=>c.1 < d.1)/\∀b∈pr,b.1 < R/\b.2 < P
def PermAt.cI {w w' B gp ga vl vo vt vf R P ks C tk fr} (a:PermAt w B gp ga vl vo vt vf R P ks C tk fr) (b:Vis w w'):PermAt w' B gp ga vl vo vt vf R P ks C tk fr:=
 ⟨b.d a.a dC dC,b.own a.u dC dC,b.own a.t dC dC,b.d a.V dC dC,b.own a.F dC dC,b.own a.M dC dC,a.apart,a.lt,a.lo⟩
section
variable {w w' : World} {F G : Nat -> Prop} {gp R P : Nat} {pr : List (Nat × Nat)}
def PermE.b (c:PermE w F gp R P pr) (f:Vis w w'):PermE w' F gp R P pr:=by
 obtain ⟨⟨ga,vl,vo,vt,vf,ks,C,tk,fr,a,b⟩,d,e⟩:=c;exact ⟨⟨ga,vl,vo,vt,vf,ks,C,tk,fr,⟨a.at_.cI f,a.fp,a.fa,a.fl,a.fo,a.ft,a.ff,a.nd,a.an,a.tkk,a.a8,a.am,a.sz⟩,b⟩,d,e⟩
def PermE.mono (g:PermE w F gp R P pr) (e:∀a,a < w.heap.size->F a->G a):PermE w G gp R P pr:=by
 obtain ⟨⟨ga,vl,vo,vt,vf,ks,C,tk,fr,b,f⟩,i,j⟩:=g;have d:=b.at_;exact ⟨⟨ga,vl,vo,vt,vf,ks,C,tk,fr,⟨d,e _ d.a.lt b.fp,e _ d.V.lt b.fa,λa c=>e a (d.u.lt a c).2 (b.fl a c),λa c=>e a (d.t.lt a c).2 (b.fo a c),λa c=>e a (d.F.lt a c).2 (b.ft a c),λa c=>e a (d.M.lt a c).2 (b.ff a c),b.nd,b.an,b.tkk,b.a8,b.am,b.sz⟩,f⟩,i,j⟩
def PermE.keep (k:PermE w F gp R P pr) (g:Keep G w w') (f:∀b,F b->¬G b):PermE w' F gp R P pr:=by
 obtain ⟨⟨ga,vl,vo,vt,vf,ks,C,tk,fr,a,j⟩,l,m⟩:=k;have c:=a.at_;refine ⟨⟨ga,vl,vo,vt,vf,ks,C,tk,fr,⟨⟨g.d c.a (f _ a.fp),aC c.u λb i d e=>g.d e (f _ (a.fl b d)),aC c.t λb i d e=>g.d e (f _ (a.fo b d)),g.d c.V (f _ a.fa),aC c.F λb i d e=>g.d e (f _ (a.ft b d)),aC c.M λb i d e=>g.d e (f _ (a.ff b d)),c.apart,c.lt,c.lo⟩,a.fp,a.fa,a.fl,a.fo,a.ft,a.ff,a.nd,a.an,a.tkk,a.a8,a.am,a.sz⟩,j⟩,l,m⟩
def PermE.below (b:PermE w F gp R P pr) (c:Below w.heap.size w w'):PermE w' F gp R P pr:=b.keep (G:=λ_=>False) (kF c) λ_ _ a=>a
end
def PermAt.bd {w} {B gp ga:Nat} {vl vo vt vf} {R P:Nat} {ks C tk fr} (a:PermAt w B gp ga vl vo vt vf R P ks C tk fr) (e:Nat):PermAt (w.setCell ⟨gp,3,none⟩ (.int .i64 e)) B gp ga vl vo vt vf e P ks C tk fr:=by
 have d:Keep (λc=>c=gp) w (w.setCell ⟨gp,3,none⟩ (.int .i64 e)):=ka (F:=λc=>c=gp) (ke _ _) (p:=⟨gp,3,none⟩) (.inl rfl) _;exact ⟨a.a.set 3 _,aC a.u λc f _ b=>d.d b (Bk.ne b a.a dC),aC a.t λc f _ b=>d.d b (Bk.ne b a.a dC),d.d a.V (Bk.ne a.V a.a dC),aC a.F λc f _ b=>d.d b (Bk.ne b a.a dC),aC a.M λc f _ b=>d.d b (Bk.ne b a.a dC),a.apart,a.lt,a.lo⟩
def PermAt.ay {w} {B gp ga:Nat} {vl vo vt vf} {R P:Nat} {ks C tk fr} (a:PermAt w B gp ga vl vo vt vf R P ks C tk fr) (e:Nat):PermAt (w.setCell ⟨gp,4,none⟩ (.int .i64 e)) B gp ga vl vo vt vf R e ks C tk fr:=by
 have d:Keep (λc=>c=gp) w (w.setCell ⟨gp,4,none⟩ (.int .i64 e)):=ka (F:=λc=>c=gp) (ke _ _) (p:=⟨gp,4,none⟩) (.inl rfl) _;exact ⟨a.a.set 4 _,aC a.u λc f _ b=>d.d b (Bk.ne b a.a dC),aC a.t λc f _ b=>d.d b (Bk.ne b a.a dC),d.d a.V (Bk.ne a.V a.a dC),aC a.F λc f _ b=>d.d b (Bk.ne b a.a dC),aC a.M λc f _ b=>d.d b (Bk.ne b a.a dC),a.apart,a.lt,a.lo⟩
def aC3 {ks:List Nat} {C b:List (Nat×Nat)} {f:Nat×Nat->Nat×Nat} (c:∀a,a∈ks->(aF b a,aS b a)=f (aF C a,aS C a)):(ks.map λa=>(aF b a,aS b a))=(ks.map λa=>(aF C a,aS C a)).map f:=by
 rw [zCh];exact zFb λa d=>c a d
def aOo {a b c} (d:a < b):inR a c < inR b c:=by
 unfold inR;split <;> split <;> omega
def iS:∀ {n:Nat} {ks:List Nat},ks.Nodup->(∀a∈ks,a < n)->ks.length<=n
 | 0,ks,_,hl=>by
  cases ks with
  | nil=>exact zAs _
  | cons a ks=>exact absurd (hl a (by simp)) oM
 | n+1,ks,h,hl=>by
  have c:=iS (n:=n) (h.erase n) λa e=>by have d:=(h.mem_erase_iff).1 e;have:=hl a d.2;omega
  by_cases b:n∈ks;have:=List.length_erase_of_mem b;omega;rw [List.erase_of_not_mem b] at c;omega
def aBJ {F gp R P b pr w} (N:PermE w F gp R P pr) (aa:b<=R) (a7:R<=100000) (a6:P<=100000):
 Calls prog 121 #[gp,(b:Int)] w λg w'=>g=.returned (.int .i64 0)/\PermE w' F gp (R+1) P (pr.map λd=>(inR d.1 b,d.2))/\Keep F w w':=by
 obtain ⟨⟨ga,vl,vo,vt,vf,ks,C,tk,fr,i,rfl⟩,W,y⟩:=N;have l:=i.at_;have M:w.cell? ⟨gp,3,none⟩=some (.int .i64 R):=(l.a.cell 3).trans rfl;have a1:=l.a.frozen 3;have S:=l.a.lt;have ad:¬((b:Int) > R):=oM;have ac:¬R < b:=oM;have ab:decide ((b:Int) < 0)=false:=zs
 have a0:wrap64 (R+1)=((R+1:Nat):Int):=by rw [dU oM oM];rfl
 have a:=i;clear i l;go_enter func121,ntmps121;go_wp2_with fail;go_quiet (fail)
 rename_i nq
 have Y:∀I,((w.alloc (.cells #[(b:Int)] 3)).drewN I).cell? ⟨gp,3,none⟩=some (.int .i64 R):=λI=>(zEw w _ ⟨gp,3,none⟩ S).trans M;have a9:∀(q:Fn) (first o:Array Value) (w:World),(Instr.makeFunc q first o).run prog w=.ok (.func q first o) w:=λ_ _ _ _=>rfl;go_wp2_with fail;have x:=a.at_.below (bR.alloc nL (.cells #[(b:Int)] 3));have t:PermAt ((w.alloc (.cells #[(b:Int)] 3)).drewN nq) 0 gp ga vl vo vt vf R P ks C tk fr:=x.below (km bR _);have u:=t.bd (R+1);have A:Bk ((w.alloc (.cells #[(b:Int)] 3)).drewN nq) w.heap.size 3 #[(b:Int)]:=kd w _ _;have D:=A.m (p:=⟨gp,3,none⟩) (λg=>by have Z:w.heap.size=gp:=g;omega) (.int .i64 (R+1:Nat));have H:∀e,vl.ownBlock=some e->e≠w.heap.size:=λe m g=>by have:=(a.at_.u.lt e m).2;omega
 have s:∀c,c∈ks->aF C c<=1000000000000/\aS C c<=1000000000000:=λc U=>by have:=y (aF C c,aS C c) (zAy.2 ⟨c,U,rfl⟩);have a2:aF C c < R:=this.1;have a3:aS C c < P:=this.2;omega
 have a8:=iS a.nd a.at_.lt;refine (aBS u a.nd (zj a.sz) D H s).mono ?_;rintro g J ⟨rfl,E,K,n,z,v⟩;have V:Keep F w J:=(ka (F:=F) (((ke _ _).alloc _).drewN _) (p:=⟨gp,3,none⟩) (.inl a.fp) _).trans (E.mono λe _ m=>a.fl e m);have O:PermE J F gp (R+1) P ((ks.map λc=>(aF C c,aS C c)).map λd=>(inR d.1 b,d.2)):=by
  refine ⟨⟨ga,vl,vo,vt,vf,ks,K,tk,fr,⟨v,a.fp,a.fa,a.fl,a.fo,a.ft,a.ff,a.nd,by rw [n];exact a.an,a.tkk,a.a8,a.am,by rw [n];exact a.sz⟩,(aC3 (f:=λd=>(inR d.1 b,d.2)) z).symm⟩,?_,λd i=>?_⟩;exact zDm.2 (W.imp λ{k e} Q=>aOo Q)
  .obtain ⟨j,X,rfl⟩:=zAy.1 i;have:=y j X;have r:∀k,inR k b<=k+1:=λk=>by unfold inR;split <;> omega
   have a5:=r j.1;have a4:=r j.2;constructor;show inR j.1 b < _;omega;show j.2 < _;omega
 clear v z E n s H D A u t x;go_wp2_with fail;go_ret;exact ⟨rfl,O,V⟩
def aBL {F gp R P} (b) {pr w} (N:PermE w F gp R P pr) (aa:b<=P) (a7:R<=100000) (a6:P<=100000):
 Calls prog 122 #[gp,(b:Int)] w λg w'=>g=.returned (.int .i64 0)/\PermE w' F gp R (P+1) (pr.map λd=>(d.1,inR d.2 b))/\Keep F w w':=by
 obtain ⟨⟨ga,vl,vo,vt,vf,ks,C,tk,fr,i,rfl⟩,W,y⟩:=N;have l:=i.at_;have M:w.cell? ⟨gp,4,none⟩=some (.int .i64 P):=(l.a.cell 4).trans rfl;have a1:=l.a.frozen 4;have S:=l.a.lt;have ad:¬((b:Int) > P):=oM;have ac:¬P < b:=oM;have ab:decide ((b:Int) < 0)=false:=zs
 have a0:wrap64 (P+1)=((P+1:Nat):Int):=by rw [dU oM oM];rfl
 have a:=i;clear i l;go_enter func122,ntmps122;go_wp2_with fail;go_quiet (fail)
 rename_i nq
 have Y:∀I,((w.alloc (.cells #[(b:Int)] 3)).drewN I).cell? ⟨gp,4,none⟩=some (.int .i64 P):=λI=>(zEw w _ ⟨gp,4,none⟩ S).trans M;have a9:∀(q:Fn) (first o:Array Value) (w:World),(Instr.makeFunc q first o).run prog w=.ok (.func q first o) w:=λ_ _ _ _=>rfl;go_wp2_with fail;have x:=a.at_.below (bR.alloc nL (.cells #[(b:Int)] 3));have t:PermAt ((w.alloc (.cells #[(b:Int)] 3)).drewN nq) 0 gp ga vl vo vt vf R P ks C tk fr:=x.below (km bR _);have u:=t.ay (P+1);have A:Bk ((w.alloc (.cells #[(b:Int)] 3)).drewN nq) w.heap.size 3 #[(b:Int)]:=kd w _ _;have D:=A.m (p:=⟨gp,4,none⟩) (λg=>by have Z:w.heap.size=gp:=g;omega) (.int .i64 (P+1:Nat));have H:∀e,vl.ownBlock=some e->e≠w.heap.size:=λe m g=>by have:=(a.at_.u.lt e m).2;omega
 have s:∀c,c∈ks->aF C c<=1000000000000/\aS C c<=1000000000000:=λc U=>by have:=y (aF C c,aS C c) (zAy.2 ⟨c,U,rfl⟩);have a2:aF C c < R:=this.1;have a3:aS C c < P:=this.2;omega
 have a8:=iS a.nd a.at_.lt;refine (aBT u a.nd (zj a.sz) D H s).mono ?_;rintro g J ⟨rfl,E,K,n,z,v⟩;have V:Keep F w J:=(ka (F:=F) (((ke _ _).alloc _).drewN _) (p:=⟨gp,4,none⟩) (.inl a.fp) _).trans (E.mono λe _ m=>a.fl e m);have O:PermE J F gp R (P+1) ((ks.map λc=>(aF C c,aS C c)).map λd=>(d.1,inR d.2 b)):=by
  refine ⟨⟨ga,vl,vo,vt,vf,ks,K,tk,fr,⟨v,a.fp,a.fa,a.fl,a.fo,a.ft,a.ff,a.nd,by rw [n];exact a.an,a.tkk,a.a8,a.am,by rw [n];exact a.sz⟩,(aC3 (f:=λd=>(d.1,inR d.2 b)) z).symm⟩,?_,λd i=>?_⟩;exact zDm.2 (W.imp λ{k e} Q=>Q)
  .obtain ⟨j,X,rfl⟩:=zAy.1 i;have:=y j X;have r:∀k,inR k b<=k+1:=λk=>by unfold inR;split <;> omega
   have a5:=r j.1;have a4:=r j.2;constructor;show j.1 < _;omega;show inR j.2 b < _;omega
 clear v z E n s H D A u t x;go_wp2_with fail;go_ret;exact ⟨rfl,O,V⟩
end
section
open Go.RowKit Go.Shelf
def sJ:∀ {l m:List Nat},l.Nodup->(∀a∈l,a∈m)->l.length<=m.length
 | [],m,_,_=>zAp _
 | a::l,m,hn,hs=>by
  obtain ⟨f,g⟩:=zDe.1 hn;have b:=hs a (by simp);have:=sJ (l:=l) (m:=m.erase a) g λd c=>by have i:d≠a:=λe=>f (by rw [<-e];exact c);exact (List.mem_erase_of_ne i).2 (hs d (by simp [c]))
  have j:=List.length_erase_of_mem b;have k:=List.length_pos_of_mem b;rw [zCg];omega
def aGN {a:List Nat} {f:Nat->Nat} (k:a.Pairwise (λg i=>f g < f i)) (e:Nat) (p:∀b∈a,f b≠f e):(aT a (a.countP λb=>decide (f b < f e)) e).Pairwise (λg i=>f g < f i):=by
 unfold aT;have m:=λ(d b:Nat) (j:a[d]?=some b)=>aG6 k (f e) d b j;obtain ⟨c,o⟩:∃c,(a.countP λb=>decide (f b < f e))=c:=⟨_,rfl⟩;rw [o] at m⊢;rw [zEx];refine ⟨k.sublist (zEY c a),zEf.2 ⟨λb l=>?_,k.sublist (zGl c a)⟩,λb l r n=>?_⟩;obtain ⟨d,j,rfl⟩:=zDR l;rw [zAw] at j;rw [zED];have s:=m (c+d) a[c+d] (zAa oM);have t:=p a[c+d] (zBj oM);omega;have q:f b < f e:=(by obtain ⟨d,j,rfl⟩:=zDR l;rw [zAj] at j;rw [zEC];exact (m d a[d] (zAa oM)).2 oM);rcases zDf.1 n with rfl | n;exact q;have:=zEx.1 (show (a.take c++a.drop c).Pairwise (λg i=>f g < f i) by rw [zAu];exact k);exact this.2.2 b l r n
def aE9 (tk a b):(tk++ [true])[a]?=some b↔tk[a]?=some b∨(a=tk.length/\b=true):=by
 by_cases e:a < tk.length;rw [zAn e];constructor;exact .inl;rintro (d |⟨d,_⟩);exact d;omega
 .rw [zAo oM,zBg (show tk.length<=a by omega)];by_cases c:a=tk.length
  .subst c;cases b <;> simp
  .rw [zBg zt];simp [c]
def AF (ga:Nat) (vt vf:Value) (a:Nat):Prop:=a=ga∨vt.ownBlock=some a∨vf.ownBlock=some a
section
variable {w : World} {F : Nat -> Prop} {gp ga : Nat} {vl vo vt vf : Value} {R P : Nat} {ks : List Nat} {C : List (Nat × Nat)} {tk : List Bool} {fr : List Nat}
def PermX.bb (k:PermX w F gp ga vl vo vt vf R P ks C tk fr):ArenaE w (AF ga vt vf) ga tk fr:=by
 have a:=k.at_;obtain ⟨d,g,i,_⟩:=aZ a.F;obtain ⟨c,f,j,_⟩:=aZ a.M;subst i j;exact ⟨.inl rfl,d,g,c,f,a.V,cG a.F (zAp _),cG a.M (zAp _),λe b=>.inr (.inl b),λe b=>.inr (.inr b)⟩
def PermX.af (c:PermX w F gp ga vl vo vt vf R P ks C tk fr) {b} (a:AF ga vt vf b):F b:=by
 rcases a with rfl | a | a;exact c.fa;exact c.ft b a;exact c.ff b a
def PermX.cx (c:PermX w F gp ga vl vo vt vf R P ks C tk fr) {b} (a:AF ga vt vf b):b < w.heap.size:=by
 rcases a with rfl | a | a;exact c.at_.V.lt;exact (c.at_.F.lt b a).2;exact (c.at_.M.lt b a).2
def PermX.bj (e:PermX w F gp ga vl vo vt vf R P ks C tk fr):¬AF ga vt vf gp:=by
 have a:=e.at_;rintro (b | b | b);exact Bk.ne a.a a.V dC b;obtain ⟨d,c⟩:=fX a.F b;exact absurd (aU c a.a).1 dC;obtain ⟨d,c⟩:=fX a.M b;exact absurd (aU c a.a).1 dC
def PermX.bn (i:PermX w F gp ga vl vo vt vf R P ks C tk fr) {e f} (c:Bk w e 133 f):¬AF ga vt vf e:=by
 have b:=i.at_;rintro (a | a | a);exact Bk.ne c b.V dC a;obtain ⟨g,d⟩:=fX b.F a;exact absurd (aU d c).1 dC;obtain ⟨g,d⟩:=fX b.M a;exact absurd (aU d c).1 dC
def PermX.aw (g:PermX w F gp ga vl vo vt vf R P ks C tk fr) {e} (c:vo.ownBlock=some e):¬AF ga vt vf e:=by
 have b:=g.at_;obtain ⟨j,f⟩:=fX b.t c;rintro (a | a | a);exact Bk.ne f b.V dC a;obtain ⟨k,i⟩:=fX b.F a;exact absurd (aU f i).1 dC
 .rcases b.apart with d | d
  .rw [d] at c;cases c
  exact d (c.trans a.symm)
end
def aFm (ga b:Nat) (vt vf:Value) (ks:List Nat) (w:World) (d:Ending) (w':World):Prop:=
 ∃(c:Nat) (tk:List Bool) (fr:List Nat),d=.returned (.tuple #[(c:Int),o0])/\c∉ks/\ArenaE w' (Gw (AF ga vt vf) w.heap.size) ga tk fr/\((c < b/\tk.length=b)∨(c=b/\tk.length=b+1/\b<=ks.length))/\(∀a,tk[a]?=some true↔a∈ks∨a=c)/\fr.Nodup/\(∀a,a∈fr↔tk[a]?=some false)/\Keep (AF ga vt vf) w w'
def aDP {F gp ga R P vl vo vt vf ks C tk fr w} (b:PermX w F gp ga vl vo vt vf R P ks C tk fr):
 Calls prog 103 #[ga] w (aFm ga C.length vt vf ks w):=by
 have U:=b.bb;have i:=b.at_;have ad:=b.sz;have E:∀a∈fr,a < tk.length:=λa g=>(zAc.1 ((b.am a).1 g)).1;rcases zDL fr with Z |⟨s,e,a0⟩
 .subst Z;obtain ⟨a8,ab,k,_⟩:=aZ i.F;obtain ⟨z,A,r,_⟩:=aZ i.M;have D:=i.V;have y:=i.F;rw [k,r] at D;rw [k] at y;have t:=oP 0 ga z A tk w D y (zAp _) (zj b.an);refine t.mono ?_;rintro p w' ⟨rfl,n,ae,X,M,a2⟩;have a6:tk.length∉ks:=λv=>by have:=(b.tkk _).2 v;rw [zBg nL] at this;cases this
  obtain ⟨N,O,q,_⟩:=aZ M;have a4:Keep (AF ga vt vf) w w':=n.mono λj _ c=>by rcases c with c | c;exact .inl c;exact .inr (.inl (by rw [k];exact c))
  have H:w'.ownsRow 0 3 1 vf 0 []:=by
   have:=aC (w':=w') (cG i.M (zAp _)) λj a9 _ d=>n.d d λc=>by rcases c with c | c;exact Bk.ne d i.V dC c;obtain ⟨aa,Y⟩:=fX y c;exact absurd (aU d Y).1 dC
   exact this
  rw [r] at H;have o:(tk++ [true]).length=tk.length+1:=zs;have x:=b.an;have W:C.length<=ks.length:=by
   have S:=sJ (l:=List.range C.length) (m:=ks) zDl λa g=>by
    rw [zCj,<-x] at g;cases d:tk[a] with
    | true=>exact (b.tkk a).1 (by rw [zAa g,d])
    | false=>exact absurd ((b.am a).2 (by rw [zAa g,d])) zs
   simpa using S
  refine ⟨tk.length,tk++ [true], [],rfl,a6,⟨.inl (.inl rfl),N,O,z,A,?_,?_,H,?_,?_⟩,.inr ⟨x,by rw [o,x],W⟩,λa=>?_,List.nodup_nil,λa=>?_,a4⟩;rw [o,<-q];exact X;rw [o,<-q];exact M;intro j d;rw [o,<-q] at d;rcases a2 with c |⟨ac,c,Q⟩;rw [c] at d;exact .inl (.inr (.inl (by rw [k];exact d)));rw [c] at d;injection d with d;subst d;exact .inr Q;intro j d;exact .inl (.inr (.inr (by rw [r];exact d)))
  .rw [<-b.tkk a,aE9];simp
  .rw [b.am a,aE9];simp
 .have a1:fr=s++ [e]:=(by simpa using a0);subst a1;have n:=(b.am e).1 zs;have u:=E e zs;have J:=b.a8;have a5:(s++ [e]).length<=tk.length:=iS J E;have t:=yF U u (zj b.an) (by simp at a5;omega);refine t.mono ?_;rintro p w' ⟨rfl,V,a3⟩;have a7:e∉ks:=λv=>by have:=(b.tkk e).2 v;rw [n] at this;cases this
  have K:=zDb.1 J;have I:∀a,(tk.set e true)[a]?=if a=e then some true else tk[a]?:=λa=>by
   rw [zBm];by_cases f:e=a
   .subst f;simp [u]
   .rw [zBw f,zBw (λp=>f p.symm)]
  refine ⟨e,tk.set e true,s,rfl,a7,V.mono λj _ c=>.inl c,.inl ⟨by rw [<-b.an];exact u,by rw [zAt,b.an]⟩,λa=>?_,K.1,λa=>?_,a3⟩
  .rw [I,<-b.tkk a];by_cases f:a=e
   .simp [f]
   .simp [f]
  .rw [I];by_cases f:a=e
   .subst f;rw [zBx rfl];constructor;intro g;exact absurd rfl (K.2.2 a g a zs)
    .intro g;cases g
   .rw [zBw f,<-b.am a];simp [f]
def PermX.c5 {w w':World} {F:Nat->Prop} {gp ga R P k row pos i n0:Nat} {vl' vo':Value} {ks:List Nat} {C C9:List (Nat×Nat)} {tk:List Bool} {fr:List Nat} {AFF:Nat->Prop}
 (W:∀a∈ks,a < C.length) (Y:ks.Nodup) (x:k∉ks) (u:k < C9.length) (I:C.length<=C9.length) (a3:C9.length<=1000) (a5:tk.length=C9.length)
 (S:∀a∈ks,(aF C9 a,aS C9 a)=(aF C a,aS C a)) (a1:ks.Pairwise (λd b=>aF C d < aF C b)) (t:i=ks.countP λa=>decide (aF C a < row)) (Z:∀a∈ks,aF C a≠row)
 (m:Bk w' gp 140 #[ga,vl',vo',.int .i64 R,(P:Int)])
 (X:w'.ownsRow 0 133 2 vl' C9.length (bU (C9.set k (row,pos)))) (a0:w'.ownsRow 0 3 1 vo' (ks.length+1) ((aT ks i k).map sv))
 (l:ArenaE w' AFF ga tk fr) (q:∀b,AFF b->F b) (Q:F ga) (U:F gp) (a7:OwnF F vl') (a8:OwnF F vo') (K:∀b,vo'.ownBlock=some b->¬AFF b)
 (a4:∀a,tk[a]?=some true↔a∈ks∨a=k) (O:fr.Nodup) (N:∀a,a∈fr↔tk[a]?=some false):
 ∃vt vf,PermX w' F gp ga vl' vo' vt vf R P (aT ks i k) (C9.set k (row,pos)) tk fr/\((aT ks i k).map λa=>(aF (C9.set k (row,pos)) a,aS (C9.set k (row,pos)) a))=aT (ks.map λa=>(aF C a,aS C a)) i (row,pos)/\(aT ks i k).Pairwise (λd b=>aF (C9.set k (row,pos)) d < aF (C9.set k (row,pos)) b):=by
 obtain ⟨ad,aa,ac,a9,ab,A,D,E,H,p⟩:=l;have V:i<=ks.length:=by rw [t];exact zBh
 have r:∀a,(aF (C9.set k (row,pos)) a,aS (C9.set k (row,pos)) a)=if a=k then (row,pos) else (aF C9 a,aS C9 a):=λa=>by
  unfold aF aS;rw [zAb,zBm];by_cases j:k=a;subst j;rw [zBx rfl,zBx rfl,zBx u];rfl
  .rw [zBw j,zBw (λe=>j e.symm),zAb]
 have s:∀a∈ks,(aF (C9.set k (row,pos)) a,aS (C9.set k (row,pos)) a)=(aF C a,aS C a):=λa c=>by rw [r,zBw (λe=>x (by rw [<-e];exact c)),S a c]
 have o:=r k;rw [zBx rfl] at o;have y:(aT ks i k).Perm (k::ks):=fU _ _ _;have v:∀a,a∈aT ks i k↔a=k∨a∈ks:=λa=>by rw [y.mem_iff,zDf]
 refine ⟨_,_,⟨⟨m,by rw [zAt];exact X,by rw [cM _ _ V];exact a0,A,D,E,?_,λa c=>?_,⟨zAp _,zAp _⟩⟩,U,Q,a7,a8,λb n=>q b (H b n),λb n=>q b (p b n),y.nodup_iff.2 (zDe.2 ⟨x,Y⟩),by rw [zAt];exact a5,λa=>by rw [a4 a,v a];exact Or.comm,O,N,by rw [zAt];exact a3⟩,?_,?_⟩
 .cases a6:vo'.ownBlock with
  | none=>exact .inl rfl
  | some b=>exact .inr λe=>K b a6 (p b e.symm)
 rw [zAt];rcases (v a).1 c with rfl | c;exact u;exact zAl (W a c) I;rw [qB,o];congr 1;exact zFb λa c=>s a c
 .have g:∀a∈ks,aF (C9.set k (row,pos)) a=aF C a:=λa c=>(Prod.mk.inj (s a c)).1;have z:aF (C9.set k (row,pos)) k=row:=(Prod.mk.inj o).1;have a2:ks.Pairwise (λd b=>aF (C9.set k (row,pos)) d < aF (C9.set k (row,pos)) b):=(by refine List.Pairwise.imp_of_mem (λ{d b} l m J=>?_) a1;rw [g d l,g b m];exact J);have:=aGN (f:=aF (C9.set k (row,pos))) a2 k λa c=>by rw [g a c,z];exact Z a c
  have M:(ks.countP λa=>decide (aF (C9.set k (row,pos)) a < aF (C9.set k (row,pos)) k))=i:=(by rw [t,z];refine zDy λa c=>?_;rw [g a c]);rw [M] at this;exact this
def aAc (w:World) (gp:Nat):Nat:=match w.cell? ⟨gp,1,none⟩ with
 | some (.slice _ a _)=>a
 | _=>0
structure AddL (F:Nat->Prop) (gp ga R P k:Nat) (vo:Value) (ks:List Nat) (C:List (Nat×Nat)) (tk:List Bool) (fr9:List Nat) (AFF:Nat->Prop) (n3:Nat) (w2 wr:World) (A9:Option Addr) (M c9:Nat) (C9:List (Nat×Nat)):Prop where
 a:Bk wr gp 140 #[ga,.slice A9 M c9,vo,(R:Int),(P:Int)]
 own:wr.ownsRow 0 133 2 (.slice A9 M c9) M (bU C9)
 len:C9.length=M
 lo:C.length<=M
 hi:M<=max C.length (k+1)
 get:∀x∈ks,(aF C9 x,aS C9 x)=(aF C x,aS C x)
 ord:wr.ownsRow 0 3 1 vo ks.length (ks.map sv)
 V:ArenaE wr AFF ga tk fr9
 keep:Keep F w2 wr
 fl:OwnF (Gw F w2.heap.size) (.slice A9 M c9)
 k3:n3<=wr.heap.size
def aDX {F gp R P row s pr w} (bW:PermE w F gp R P pr) (cm:row < R) (cj:s < P) (bv:∀M∈pr,M.1≠row) (bt:∀M∈pr,M.2≠s) (br:pr.length<=900):
 Calls prog 60 #[gp,(row:Int),(s:Int)] w λe w'=>e=.returned (.int .i64 0)/\(∃bG,bG.Perm ((row,s)::pr)/\PermE w' (Gw F w.heap.size) gp R P bG)/\Keep F w w':=by
 obtain ⟨⟨ga,vl,vo,vt,vf,ks,C,tk,fr,v,rfl⟩,bB,bi⟩:=bW;obtain ⟨cu,ca,cr,cs,ct⟩:=info_parts wK;have W:=v.at_;have bA:=zDm.1 bB;have bz:ks.Pairwise (λW a=>aF C W < aF C a):=bA;have bw:∀d∈ks,aF C d≠row:=λd x=>bv _ (zAy.2 ⟨d,x,rfl⟩);have bu:∀d∈ks,aS C d≠s:=λd x=>bt _ (zAy.2 ⟨d,x,rfl⟩);have c5:∀d∈ks,aF C d < R/\aS C d < P:=λd x=>bi _ (zAy.2 ⟨d,x,rfl⟩);have cc:ks.length<=900:=by simpa using br
 obtain ⟨Q,aQ⟩:∃Q,(ks.countP λd=>decide (aF C d < row))=Q:=⟨_,rfl⟩;have bn:Q<=ks.length:=by rw [<-aQ];exact zBh
 have bl:decide (∃d∈ks,aF C d=row)=false:=by rw [decide_eq_false_iff_not];rintro ⟨d,x,e⟩;exact bw d x e
 have bm:kH (λd=>decide (aS C d=s)) ks 0=-1:=mD (λd x=>by simpa using bu d x) 0;have aH:=lS (B:=0) (gp:=gp) (ga:=ga) (vl:=vl) (vo:=vo) (vt:=vt) (vf:=vf) (R:=R) (P:=P) (ks:=ks) (C:=C) (tk:=tk) (fr:=fr) (w:=w) row W bz oM;rw [aQ,bl] at aH;have aO:=λbK c2=>kE (B:=0) (gp:=gp) (ga:=ga) (vl:=vl) (vo:=vo) (vt:=vt) (vf:=vf) (R:=R) (P:=P) (ks:=ks) (C:=C) (tk:=tk) (fr:=fr) (w:=bK) s c2 oM;simp only [bm] at aO;have bM:w.cell? ⟨gp,3,none⟩=some (.int .i64 R):=(W.a.cell 3).trans rfl;have bN:w.cell? ⟨gp,4,none⟩=some (.int .i64 P):=(W.a.cell 4).trans rfl;obtain ⟨K,J⟩:=eqx ks.length;obtain ⟨V,D⟩:=eqx C.length;have cM:K<=900:=oM;have cF:V<=1000:=by rw [<-D];exact v.sz
 have ax:=v;rw [J] at bn;clear bA bl bm bB bi bv bt bu v W br cc;go_enter func60,ntmps60;go_wp2_with fail;refine aH.mono ?_;clear aH;rintro e w1 ⟨rfl,ag⟩;have ae:=ax.at_.below ag;have aw:=ae;clear ae bM bN;go_wp2_with fail;refine (aO w1 aw).mono ?_;rintro e q ⟨rfl,aJ⟩;have bh:=ag.trans (aJ.mono ag.size);have o:PermX q F gp ga vl vo vt vf R P ks C tk fr:= { ax with at_:=aw.below aJ };have bL:q.cell? gp=some (.pointer (some ga)):=(o.at_.a.cell 0).trans rfl;clear aJ aw ag aO ax;go_wp2_with fail;have aE:=aDP (F:=F) (gp:=gp) (ga:=ga) (R:=R) (P:=P) (vl:=vl) (vo:=vo) (vt:=vt) (vf:=vf) (ks:=ks) (C:=C) (tk:=tk) (fr:=fr) (w:=q) o;unfold aFm at aE;refine aE.mono ?_;clear aE;rintro e t ⟨d,a9,a2,rfl,ch,bd,bj,co,c7,c6,a6⟩;have a4:=a6.d o.at_.a o.bj;have ao:=aC (w':=t) o.at_.u λa f _ b=>a6.d b (o.bn b);have ap:=aC (w':=t) o.at_.t λa f b x=>a6.d x (o.aw b);obtain ⟨av,az,bD,_⟩:=aZ ao;obtain ⟨aa,ad,E,_⟩:=aZ ap;have an:vl=.slice av V az:=by rw [bD,D]
 have cQ:vo=.slice aa K ad:=by rw [E,J]
 rw [D] at ao;rw [J] at ap;have X:t.cell? ⟨gp,1,none⟩=some (.slice av V az):=(a4.cell 1).trans (by rw [an];rfl);have aD:=a4.frozen 1;have c8:=a4.lt;have cK:d<=V:=zj D
 have bp:Keep F q t:=a6.mono λa _ l=>o.af l;have b8:=(bd.mono (G:=λa=>Gw (AF ga vt vf) q.heap.size a/\a < t.heap.size) λa b l=>⟨l,b⟩);have bc:=(zEw t (Obj.cells #[o0,o0] 133) ⟨gp,1,none⟩ c8).trans X;clear bd bD E bL;have bo:AddL F gp ga R P d vo ks C a9 a2 (λa=>Gw (AF ga vt vf) q.heap.size a/\a < t.heap.size) t.heap.size q t av V az C:=
  ⟨by have:=a4;rwa [an] at this,by have:=ao;rwa [an] at this,D,by rw [D];exact zAs _,by have:=D;omega,λM _=>rfl,by rw [J];exact ap,b8,bp,λa b=>.inl (o.fl a (by rw [an];exact b)),zAs _⟩
 clear X aD bc;go_wp2_with fail;go_loopw [] (λwr=>∃I g y u,AddL F gp ga R P d vo ks C a9 a2 (λa=>Gw (AF ga vt vf) q.heap.size a/\a < t.heap.size) t.heap.size q wr I g y u) (λwr=>d+1 - aAc wr gp)
 case atStart=>exact ⟨_,_,_,_,bo⟩
 case round=>
  obtain ⟨I,g,y,u,j⟩:=hrel;clear bo a4 ao ap b8 bp a6;have X:wr.cell? ⟨gp,1,none⟩=some (.slice I g y):=(j.a.cell 1).trans rfl;have aD:=j.a.frozen 1;have c9:=j.a.lt;have bY:=j.len;have bZ:=j.lo;have c0:=j.hi;rw [D] at bZ c0;by_cases bs:g<=d
  .have cd:=zBz bs;have ce:(g:Int)<=d:=oM;obtain rfl:g=V:=oM;have bc:=(zEw wr (Obj.cells #[o0,o0] 133) ⟨gp,1,none⟩ c9).trans X;have ck:aAc wr gp=g:=(by unfold aAc;rw [X]);go_wp2_with (at_builtin;refine bP _ rfl (.tmp 72) (.tmp 74) _ rfl 0 133 cu (.agg #[o0,o0]) 2 16 underlying78 ca cr cs ct rfl dC (.slice I g y) g _ rfl j.own rfl rfl (by simp [Value.oneCell']) zx oM (zAp _) ?_;intro cU H aW aL cP bg;have ai:=j.a.grown aL (bC j.own j.a dC);have cB:H.cell? ⟨gp,1,none⟩=some (.slice I g y):=(ai.cell 1).trans rfl;have cD:=ai.frozen 1;obtain ⟨N,O,rfl,cf⟩:=aR aW;obtain ⟨ab,ba,U,b9⟩:=hqq4 ai aW aL bg;clear cf aW aL bg ai);have a7:Keep (λa=>(Value.slice I g y).ownBlock=some a) wr H:=⟨U.os,U.tape,U.output,U.size,λa b am=>U.block a b λe=>am e.symm⟩
   have be:AddL F gp ga R P d vo ks C a9 a2 (λa=>Gw (AF ga vt vf) q.heap.size a/\a < t.heap.size) t.heap.size q (H.setCell ⟨gp,1,none⟩ (.slice N (g+1) O)) N (g+1) O (u++ [(0,0)]):=by
    have L:=j;have Y:∀a m f,m≠140->Bk H a m f->Bk (H.setCell ⟨gp,1,none⟩ (.slice N (g+1) O)) a m f:=λa m f ht b=>b.m (p:=⟨gp,1,none⟩) (Bk.ne b ab ht) _;have cN:∀a,(Value.slice I g y).ownBlock=some a->Gw F q.heap.size a:=λa b=>L.fl a b;have am:∀a m f,m≠133->Bk wr a m f->¬((Value.slice I g y).ownBlock=some a):=λa m f ht b e=>by obtain ⟨bO,aK⟩:=fX L.own e;exact ht (aU b aK).1
    refine ⟨ab.set 1 _,?_,by rw [zAi,L.len];rfl,by have:=L.lo;omega,by omega,λM v=>?_,?_,?_,?_,?_,?_⟩;rw [lZ];exact aC ba λa f _ b=>Y _ _ _ dC b
    .rw [<-L.get M v];have cS:=o.at_.lt M v;unfold aF aS;rw [zAb,zAb,zAn (zk L.lo L.len)]
    exact aC L.ord λa f _ b=>Y _ _ _ dC (a7.d b (am _ _ _ dC b));refine (L.V.keep a7 λa m f ht b _=>am a m f (λe=>by subst e;revert ht;decide) b).keep (G:=λa=>a=gp) (ka (F:=λa=>a=gp) (ke _ _) (p:=⟨gp,1,none⟩) (.inl rfl) _) λa m f ht b _ e=>?_;have aB:a=gp:=e;subst aB;rw [(aU b ab).1] at ht;revert ht;decide;refine ka (F:=F) (L.keep.trans' a7 λa b l=>?_) (p:=⟨gp,1,none⟩) (.inl o.fp) _;rcases L.fl a l with z | z;exact z;omega;intro a b;rcases b9 with e | e;rw [e] at b;exact L.fl a b;rw [e] at b;injection b with b;subst b;exact .inr (zj L.keep.size);have ae:=L.k3;have bX:=a7.size;have cE:(H.setCell ⟨gp,1,none⟩ (.slice N (g+1) O)).heap.size=H.heap.size:=(by simp [World.setCell]);omega
   have cl:aAc (H.setCell ⟨gp,1,none⟩ (.slice N (g+1) O)) gp=g+1:=(by have bQ:(H.setCell ⟨gp,1,none⟩ (.slice N (g+1) O)).cell? ⟨gp,1,none⟩=some (.slice N (g+1) O):=(be.a.cell 1).trans rfl;unfold aAc;rw [bQ]);clear a7 ab ba U b9 j;go_roundw
   case rel=>exact ⟨_,_,_,_,be⟩
   case measure=>rw [ck,cl];omega
  .have cd:=zBy bs;have ce:¬(g:Int)<=d:=oM;have a8:d < g:=oM;have cJ:(d:Int) < g:=oM;obtain ⟨r,cT,aX,_,cG⟩:=kj j.own oM;injection aX with aX _ hs9c;subst aX hs9c;obtain ⟨cA,ah⟩:=fE j.own;have cI:gp≠r:=Bk.ne j.a ah dC;have cy:=ah.frozen (d*2);have cz:=ah.frozen (d*2+1);obtain ⟨b6,b7⟩:=cL u d (by rw [bY];exact a8);have bI:=(kh j.own (d*2) oM).trans b6;have bJ:=(kh j.own (d*2+1) oM).trans b7;generalize aF u d=u0 at bI b6;generalize aS u d=u1 at bJ b7;obtain ⟨aa,ad,E,_⟩:=aZ j.ord;rw [J] at E;have aA:wr.cell? ⟨gp,2,none⟩=some (.slice aa K ad):=(j.a.cell 2).trans (by rw [E];rfl);clear b6 b7;go_wp2_with fail;have b2:((wr.setCell ⟨r,d*2,none⟩ (.int .i64 row)).setCell ⟨r,d*2+1,none⟩ (.int .i64 s)).ownsRow 0 133 2 (.slice (some r) g y) g (bU (u.set d (row,s))):=(by have bH:=(kk j.own (d*2) (.int .i64 row)).1;rw [mA (C:=u) (k:=d) row (by rw [j.len];exact a8)] at bH;have aq:=(kk bH (d*2+1) (.int .i64 s)).1;rw [pR _ d s (by rw [zAt,j.len];exact a8)] at aq;rw [List.set_set] at aq;have bS:aF (u.set d (row,aS u d)) d=row:=(by unfold aF;rw [zAb,zDq (by rw [j.len];exact a8)];rfl);rw [bS] at aq;exact aq);have a0:Keep (λa=>a=r) wr ((wr.setCell ⟨r,d*2,none⟩ (.int .i64 row)).setCell ⟨r,d*2+1,none⟩ (.int .i64 s)):=((ke (λa=>a=r) wr).setCell (p:=⟨r,d*2,none⟩) (.inl rfl) _).setCell (p:=⟨r,d*2+1,none⟩) (.inl rfl) _;have b0:((wr.setCell ⟨r,d*2,none⟩ (.int .i64 row)).setCell ⟨r,d*2+1,none⟩ (.int .i64 s)).heap.size=wr.heap.size:=(by simp [World.setCell]);rw [<-b0];clear bI bJ cy cz X aA aD;generalize (wr.setCell ⟨r,d*2,none⟩ (.int .i64 row)).setCell ⟨r,d*2+1,none⟩ (.int .i64 s)=w7 at b2 a0 b0⊢;have al:∀a m f,m≠133->Bk wr a m f->¬(a=r):=λa m f ht b e=>by subst e;exact ht (aU b ah).1
   have aN:=a0.d j.a (al _ _ _ dC j.a);have b4:=aC (w':=w7) j.ord λa f _ b=>a0.d b (al _ _ _ dC b);have bf:=j.V.keep a0 λa m f ht b _=>al a m f (λe=>by subst e;revert ht;decide) b;have bq:Keep F q w7:=j.keep.trans' a0 λa b l=>by have bT:a=r:=l;rcases j.fl a (by rw [bT];rfl) with z | z;exact z;omega
   have a3:Below w7.heap.size w7 (w7.alloc (.cells #[(d:Int)] 3)):=bR.alloc nL _;have ak:=kd w7 3 #[(d:Int)];have a1:=aP b4 a3;have b3:=aP b2 a3;have aj:=aN.below a3 aN.lt;have aG:=bf.keep (G:=λ_=>False) (kF a3) λ_ _ _ _ _ _ l=>l;have aV:Keep F q (w7.alloc (.cells #[(d:Int)] 3)):=bq.alloc _;obtain ⟨bV,aM⟩:=eqx w7.heap.size;rw [aM] at ak;rw [aM];have bF:∀a,vo.ownBlock=some a->a < w7.heap.size:=λa b=>(b4.lt a b).2;rw [J,E] at a1;have b5:wr.heap.size<=(w7.alloc (.cells #[(d:Int)] 3)).heap.size:=zt;have bb:=b5;clear b5;generalize w7.alloc (.cells #[(d:Int)] 3)=w8 at bb ak a1 b3 aj aG aV⊢;have aT:=aBQ (B:=0) (A:=aa) (n:=K) (c:=ad) (i:=Q) (ks:=ks) (gx:=bV) (k:=d) (w:=w8) a1 ak (λa b e=>by have:=bF a (by rw [E];exact b);omega) (zAp _) bn oM;unfold vQ at aT;refine aT.mono ?_;clear aT;rintro e S ⟨au,ay,rfl,ci,Z,aI⟩;rw [<-E] at Z aI a1;have b1:∀a m f,m≠3->Bk w8 a m f->¬(vo.ownBlock=some a):=λa m f ht b e=>by obtain ⟨bO,aK⟩:=fX a1 e;exact ht (aU b aK).1
   have a5:=Z.d aj (b1 _ _ _ dC aj);have cp:=aC (w':=S) b3 λa f _ b=>Z.d b (b1 _ _ _ dC b);have bE:∀a,vo.ownBlock=some a->¬(Gw (AF ga vt vf) q.heap.size a/\a < t.heap.size):=λa b l=>by rcases l.1 with l | l;exact o.aw b l;have:=(o.at_.t.lt a b).2;omega
   have c4:=aG.keep Z λa m f _ _ l e=>bE a e l;have cb:Keep F q S:=aV.trans' Z λa _ l=>o.fo a l;have aA:S.cell? ⟨gp,2,none⟩=some vo:=(a5.cell 2).trans rfl;rw [E] at aA;have cC:=a5.frozen 2;have cH:=a5.lt;clear Z a1 b3 aj aG ak a3 bq bf b4 aN a0 b2 b0 aM bF b1 al;go_wp2_with fail;go_ret;have aY:Keep (λa=>a=gp) S (S.setCell ⟨gp,2,none⟩ (.slice au (K+1) ay)):=ka (F:=λa=>a=gp) (ke _ _) (p:=⟨gp,2,none⟩) (.inl rfl) _;have Y:∀a m f,m≠140->Bk S a m f->¬(a=gp):=λa m f ht b e=>by subst e;exact ht (aU b a5).1
   have cO:=bh.size;have cR:=aV.size;have b5:=bb;have c1:g<=1000:=(by rcases bj with ac | ac;have:=D;omega;have:=D;have:=J;omega);have cg:∀a,Gw F q.heap.size a->Gw F w.heap.size a:=λa l=>by rcases l with l | l;exact .inl l;exact .inr oM
   have L:=j
   obtain ⟨cw,cv,c3,bx,cn⟩:=PermX.c5 (w:=w) (w':=S.setCell ⟨gp,2,none⟩ (.slice au (K+1) ay)) (F:=Gw F w.heap.size) (gp:=gp) (ga:=ga) (R:=R) (P:=P) (k:=d) (row:=row) (pos:=s) (i:=Q) (n0:=0) (vl':=.slice (some r) g y) (vo':=.slice au (K+1) ay) (ks:=ks) (C:=C) (C9:=u) (tk:=a9) (fr:=a2) (AFF:=λa=>Gw (AF ga vt vf) q.heap.size a/\a < t.heap.size)
    o.at_.lt o.nd ch (by rw [L.len];exact a8) (by rw [L.len];exact L.lo) (by rw [L.len];exact c1) (by
     rw [L.len];rcases bj with ac | ac;have:=L.lo;have:=L.hi;omega
     .have:=L.lo;have:=L.hi;omega) L.get bz aQ.symm bw (a5.set 2 _)
    (by rw [L.len];exact aC cp λa f _ b=>aY.d b (Y _ _ _ dC b))
    (by rw [J];exact aC ci λa f _ b=>aY.d b (Y _ _ _ dC b))
    (c4.keep aY λa m f ht b _=>Y a m f (λe=>by subst e;revert ht;decide) b)
    (λa l=>by
     rcases l.1 with z | z;exact .inl (o.af z)
     .exact .inr oM)
    (.inl o.fa) (.inl o.fp) (λa b=>cg a (L.fl a b))
    (λa b=>by
     rcases aI with e |⟨z,e,aB⟩;exact .inl (o.fo a (by rw [<-e];exact b))
     .rw [e] at b;injection b with b;subst b;exact .inr oM)
    (λa b l=>by
     rcases aI with e |⟨z,e,aB⟩;exact bE a (by rw [<-e];exact b) l
     .rw [e] at b;injection b with b;subst b;have ae:=l.2;have bX:=L.k3;omega)
    co c7 c6
   refine ⟨rfl,⟨_,?_,⟨ga,_,_,cw,cv,_,_,a9,a2,c3,rfl⟩,zDm.2 cn,λM v=>?_⟩,(kF bh).trans (ka (F:=F) cb (p:=⟨gp,2,none⟩) (.inl o.fp) _)⟩;rw [bx];exact fU _ _ _;rw [bx] at v;rcases zDf.1 ((fU _ _ _).subset v) with rfl | v;exact ⟨cm,cj⟩;obtain ⟨cx,cq,rfl⟩:=zAy.1 v;exact c5 cx cq
def PermE.inj {w F gp R P pr} (f:PermE w F gp R P pr) {d e} (j:d∈pr) (k:e∈pr) (l:d.1=e.1):d=e:=by
 obtain ⟨b,g,rfl⟩:=zDR j;obtain ⟨c,i,rfl⟩:=zDR k;rcases zDD b c with a | a | a;have:=zAr.1 f.2.1 b c g i a;omega;subst a;rfl;have:=zAr.1 f.2.1 c b i g a;omega
end
end Go.Proofs.YtknjfpcdhdmghaaGreatDoor
