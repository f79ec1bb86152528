/- Lemmas of the walk. Conditions: each its own. -/
import Derived.Test.YtlghmcogeipojaaGreatDoorPn8
set_option linter.all false
set_option maxRecDepth 100000
set_option maxHeartbeats 4000000
open Go.Proofs.Tryz
namespace Go.Proofs.YtlghmcogeipojaaGreatDoor
open Go.RowKit Go.Shelf
section
def WalkT (w:World) (B gk:Nat) (L T:List Nat):Prop:=
 ∃b a,Bk w gk 140 #[.pointer (some ⟨b,0,none⟩),.pointer (some ⟨a,0,none⟩)]/\WaveAt w B b L/\Bk w a 197 (tcells T)
def WalkT.b {w w' B gk L T} (d:WalkT w B gk L T) (a:Vis w w'):WalkT w' B gk L T:=by
 obtain ⟨c,b,e,f,g⟩:=d;exact ⟨c,b,a.d e dC dC,f.b a,a.d g dC dC⟩
def uL (L T:List Nat) (a b:Nat):Nat:=T.countP (λc=>decide (c < a))+(L.take b).count a
def aDy {B gk L T w} (c:WalkT w B gk L T):
 Calls prog 50 #[gk] w λa w'=>a=.returned (.int .i64 L.length)/\w=w':=by
 obtain ⟨i,g,b,d,e⟩:=c;have f:=b.cell 0;clear b e;go_enter func50,ntmps50;go_wp2_with fail;refine (yD d).mono ?_;rintro a w' ⟨rfl,rfl⟩;go_wp2_with fail;go_ret;exact ⟨rfl,rfl⟩
def aAW {B gk:Nat} {L T} {s:Nat} {w} (f:WalkT w B gk L T) (l:s < 257) (k:T.length<=1000):
 Calls prog 115 #[gk,(s:Int)] w λb w'=>b=.returned (.int .i64 (T.countP (λa=>decide (a < s)):Nat))/\Below w.heap.size w w':=by
 obtain ⟨o,n,c,g,i⟩:=f;have m:=c.cell 1;clear c g;go_enter func115,ntmps115;go_wp2_with fail;refine (lR i l k).mono ?_;rintro b w' ⟨rfl,j⟩;obtain ⟨e,d⟩:∃e,T.countP (λa=>decide (a < s))=e:=⟨_,rfl⟩;rw [d];go_wp2_with fail;go_ret;exact ⟨by rw [d];rfl,j⟩
def aFg {B gk L T i w} (c:WalkT w B gk L T) (d:i < L.length):
 Calls prog 112 #[gk,(i:Int)] w λa w'=>a=.returned (.bool true)/\w=w':=by
 obtain ⟨e,b⟩:=eqx L.length;rw [b] at d;have f:(i:Int) < e:=oM;go_enter func112,ntmps112;go_wp2_with fail;refine (aDy c).mono ?_;rintro a w' ⟨rfl,rfl⟩;rw [b];go_wp2_with fail;go_ret;exact ⟨rfl,rfl⟩
def sO {B gk:Nat} {L T} {d b:Nat} {w} (z:WalkT w B gk L T) (t:L[d]?=some b) (q:∀y∈L,y < 257) (H:L.length<=1000) (E:T.length<=1000):
 Calls prog 110 #[gk,(d:Int)] w λg w'=>g=.returned (.int .i64 (uL L T b d:Nat))/\VB B w w':=by
 have r:=(zAc.1 t).1;have I:b < 257:=q _ (zAd t);have D:=z;obtain ⟨f,ab,p,A,U⟩:=z;have K:=p.cell 0;have ae:=p.lt;obtain ⟨k,u⟩:=eqx (uL L T b d);obtain ⟨n,v⟩:∃a1,T.countP (λy=>decide (y < b))=a1:=⟨_,rfl⟩;obtain ⟨o,x⟩:=eqx ((L.take d).count b);have Y:n+o=k:=by rw [<-v,<-x,<-u];rfl
 have ac:n<=1000:=by rw [<-v];exact zAk zBh E
 have ad:o<=1000:=by rw [<-x];exact zAk zBv (by rw [zAj];omega)
 rw [u];have J:=E;clear U u;go_enter func110,ntmps110;go_wp2_with fail;refine (aFg (B:=B) (gk:=gk) (L:=L) (T:=T) (i:=d) (w:=w) D r).mono ?_;rintro g w1 ⟨rfl,rfl⟩;go_wp2_with fail;refine (eR (B:=B) (gv:=f) (L:=L) (w:=w) d b A r (zAc.1 t).2 q H).mono ?_;rintro g l ⟨rfl,m⟩;have W:=D.b m.1;have O:=m.1.d p dC dC;have Q:=A.b m.1;clear K;go_wp2_with fail;refine wp_region_any kR<|aQ (S:=(VB B)) (V:=(Vs [is gk,is (b:Int),is (n:Int),is gk,is gk,is gk,is f,is (d:Int),is (b:Int),is (o:Int),is (k:Int),is (k:Int)])) [20,21,22,23,24,25,26,27,28,29,30,4] _ rfl kR vR (λ_ _=>VisK.trans) (dI tA0) ?_ ?_
 .refine aL<|pH 0 (.pointer (some gk))<|pH 5 (.int .i64 b)<|sC (λ_ e a _ _ _ c _ _ _ j=>?_) ?_
  .have a4:_=_:=c 0 20 kR rfl;have a5:_=_:=c 1 21 kR rfl;replace a:(VB B) l e:=bD a;go_simp;refine (aAW (B:=B) (gk:=gk) (L:=L) (T:=T) (s:=b) (w:=e) (W.b a.1) I J).mono ?_;rintro g a3 ⟨rfl,X⟩;rw [v];exact j _ _ (kc X) rfl
  refine pH 0 (.pointer (some gk))<|pV 3 23<|pV 4 24<|pL 5 25 (λe a=>have a:(VB B) l e:=bD a;(((a.1.d O dC dC).cell 0).trans rfl:e.cell? gk=some (.pointer (some f)))) ?_;refine pH 1 (.int .i64 d)<|pH 5 (.int .i64 b)<|sC (λ_ e a _ _ _ c _ _ _ j=>?_) ?_
  .have a7:_=_:=c 6 26 kR rfl;have a8:_=_:=c 7 27 kR rfl;have a9:_=_:=c 8 28 kR rfl;replace a:(VB B) l e:=bD a;go_simp;refine (iZ (B:=B) (gv:=f) (L:=L) (s:=b) (w:=e) d (Q.b a.1) I (zCm r) q H).mono ?_;rintro g a3 ⟨rfl,a0⟩;rw [x];exact j _ _ a0 rfl
  refine sC (λ_ _ _ _ _ _ c _ _ _ j=>?_) ?_
  .have a6:_=_:=c 2 22 kR rfl;have aa:_=_:=c 9 29 kR rfl;have af:IntKind.i64.wrap (n+o)=(k:Int):=(by rw [wI0];have:=Y;omega);go_simp;exact j _ _ vR rfl
  refine pV 10 30 ?_;exact aB
 .intro N a2 a c;replace a:(VB B) l a2:=bD a;have M:N (.tmp 4)=.int .i64 k:=c 11 4 rfl;simp only [zqq];rw [M];clear c;have Z:=m.trans a;go_wp2_with fail;go_ret;exact ⟨rfl,Z⟩
def WalkE (w:World) (B:Nat) (own:Nat->Nat) (gk:Nat) (L T:List Nat):Prop:=
 ∃b a,Bk w gk 140 #[.pointer (some ⟨b,0,none⟩),.pointer (some ⟨a,0,none⟩)]/\own gk=2/\WaveE w B own b L/\Bk w a 197 (tcells T)/\own a=2
section
variable {w w' : World} {B : Nat} {own own' : Nat -> Nat} {gk : Nat} {L T : List Nat}
def WalkE.dg (c:WalkE w B own gk L T):WalkT w B gk L T:=by
 obtain ⟨b,a,d,_,e,f,_⟩:=c;exact ⟨b,a,d,e.at,f⟩
def WalkE.at (d:WalkE w B own gk L T) (g:T.Perm L):WalkAt w B gk L:=by
 obtain ⟨c,b,e,_,f,a,_⟩:=d;rw [xO g] at a;exact ⟨c,b,e,f.at,a⟩
def WalkE.b (d:WalkE w B own gk L T) (a:Vis w w'):WalkE w' B own gk L T:=by
 obtain ⟨c,b,e,f,g,i,j⟩:=d;exact ⟨c,b,a.d e dC dC,f,g.b a,a.d i dC dC,j⟩
def WalkE.m (g:WalkE w B own gk L T) {H} (d:Keep H w w') (c:∀a,H a->own a≠2/\own a < 16):WalkE w' B own gk L T:=by
 obtain ⟨f,e,i,j,k,l,m⟩:=g;exact ⟨f,e,d.d i (λb=>by have:=c _ b;omega),j,k.m d c,d.d l (λb=>by have:=c _ b;omega),m⟩
def WalkE.aq (k:WalkE w B own gk L T) (b:∀a,a < w.heap.size->2<=own a->own' a=own a) (l:∀a,own' a≠0->B<=a/\a < w.heap.size):WalkE w B own' gk L T:=by
 obtain ⟨j,i,c,e,f,d,g⟩:=k;exact ⟨j,i,c,by rw [b _ c.lt oM];exact e,f.aq b l,d,by rw [b _ d.lt oM];exact g⟩
def WalkE.dl {a} (j:WalkE w B own gk L T) (k:T.Perm a):WalkE w B own gk L a:=by
 obtain ⟨i,g,c,d,e,b,f⟩:=j;rw [xO k] at b;exact ⟨i,g,c,d,e,b,f⟩
def WaveE.q (b:WaveE w B own gk L):∀a,own a≠0->B<=a/\a < w.heap.size:=by
 obtain ⟨c,d,b⟩:=b;exact b.q
def WalkE.q (c:WalkE w B own gk L T):∀a,own a≠0->B<=a/\a < w.heap.size:=by
 obtain ⟨j,i,d,e,b,f,g⟩:=c;exact b.q
end
structure Grew (w w':World) (own own':Nat->Nat):Prop where
 H:∀b,b < w.heap.size->own' b=own b
 new:∀b,w.heap.size<=b->own' b≠1
 keep:Keep (λb=>own b=2∨16<=own b) w w'
def Grew.refl {w own} (b:∀a,own a≠0->a < w.heap.size):Grew w w own own:=⟨λ_ _=>rfl,λa d c=>by have:=b a oM;omega,ke _ _⟩
def Grew.trans {w w1 w' own e own'} (b:Grew w w1 own e) (d:Grew w1 w' e own'):Grew w w' own own':=by
 have i:=b.keep.size;refine ⟨λa c=>(d.H a oM).trans (b.H a c),λa c=>?_,b.keep.trans' d.keep λa c g=>by rw [<-b.H a c];exact g⟩;by_cases f:a < w1.heap.size;rw [d.H a f];exact b.new a c;exact d.new a oM
def Grew.i {B:Nat} {w w' own} (c:Keep (λa=>own a=2∨16<=own a) w w') (b:∀a,own a≠0->a < w.heap.size):Grew w w' own own:=⟨λ_ _=>rfl,λa e d=>by have:=b a oM;omega,c⟩
def iL {B gk:Nat} {own L T} (i:Nat) {s:Nat} {w} (b:WalkE w B own gk L T) (K:s < 257) (I:i<=L.length) (y:∀M∈L,M < 257) (J:L.length<=895):
 Calls prog 102 #[gk,(i:Int),(s:Int)] w λl w'=>l=.returned (.tuple #[])/\∃own',WalkE w' B own' gk (aT L i s) T/\Grew w w' own own':=by
 obtain ⟨c,m,d,u,e,j,v⟩:=b;have t:w.cell? gk=some (.pointer (some c)):=(d.cell 0).trans rfl;have A:=d.lt;have H:own c=2:=by obtain ⟨k,r,b⟩:=e;exact b.base.2
 have D:gk≠c:=by obtain ⟨k,r,b⟩:=e;exact Bk.ne d b.a dC
 have E:m≠c:=by obtain ⟨k,r,b⟩:=e;exact Bk.ne j b.a dC
 go_enter func102,ntmps102;go_wp2_with fail;refine (aAS e K I y J).mono ?_;rintro l w1 ⟨rfl,own',q,g,o,f⟩;have n:=f.d d (λa=>by rcases a with a | a;exact D a;omega);have p:=f.d j (λa=>by rcases a with a | a;exact E a;omega);have z:Grew w w1 own own':=⟨g,o,f.mono λN _ a=>by rcases a with a | a;left;rw [a,H];right;exact a⟩;have x:WalkE w1 B own' gk (aT L i s) T:=⟨c,m,n,by rw [g _ A];exact u,q,p,by rw [g _ j.lt];exact v⟩;clear q g o f n p t;go_wp2_with fail;go_end0;exact ⟨rfl,own',x,z⟩
def iM {B gk:Nat} {own L T} {k s:Nat} {w} (b:WalkE w B own gk L T) (I:L[k]?=some s) (y:∀K∈L,K < 257) (J:L.length<=896):
 Calls prog 93 #[gk,(k:Int)] w λl w'=>l=.returned (.int .i64 s)/\∃own',WalkE w' B own' gk (aK L k) T/\Grew w w' own own':=by
 obtain ⟨c,m,d,u,e,i,v⟩:=b;have t:w.cell? gk=some (.pointer (some c)):=(d.cell 0).trans rfl;have A:=d.lt;have H:own c=2:=by obtain ⟨j,r,b⟩:=e;exact b.base.2
 have D:gk≠c:=by obtain ⟨j,r,b⟩:=e;exact Bk.ne d b.a dC
 have E:m≠c:=by obtain ⟨j,r,b⟩:=e;exact Bk.ne i b.a dC
 go_enter func93,ntmps93;go_wp2_with fail;refine (aAT e I y J).mono ?_;rintro l w1 ⟨rfl,own',q,g,o,f⟩;have n:=f.d d (λa=>by rcases a with a | a;exact D a;omega);have p:=f.d i (λa=>by rcases a with a | a;exact E a;omega);have z:Grew w w1 own own':=⟨g,o,f.mono λM _ a=>by rcases a with a | a;left;rw [a,H];right;exact a⟩;have x:WalkE w1 B own' gk (aK L k) T:=⟨c,m,n,by rw [g _ A];exact u,q,p,by rw [g _ i.lt];exact v⟩;clear q g o f n p t;go_wp2_with fail;go_ret;exact ⟨rfl,own',x,z⟩
def lQ {B gk:Nat} {own L T} {a u c:Nat} {w} (o:WalkE w B own gk L T) (l:L[a]?=some u) (r:c < 257) (k:∀v∈L,v < 257) (q:L.length<=896):
 Calls prog 92 #[gk,(a:Int),(c:Int)] w λb w'=>b=.returned (.tuple #[])/\∃own',WalkE w' B own' gk (L.set a c) T/\Grew w w' own own':=by
 have d:=(zAc.1 l).1;have x:=cJ d;have s:aT (aK L a) a c=L.set a c:=by
  apply zDs;intro e;rw [jX _ _ oM,zBm];by_cases f:e < a
  .rw [zBx f,zBw oM,eQ d,zBx f]
  .rw [zBw f];by_cases g:e=a
   .subst g;rw [zBx rfl,zBx rfl,zBx d]
   .rw [zBw g,zBw (λb=>g b.symm),eQ d,zBw oM,show e - 1+1=e by omega]
 go_enter func92,ntmps92;go_wp2_with fail;refine (iM o l k q).mono ?_;rintro b w1 ⟨rfl,y,p,n⟩;go_wp2_with fail;refine (iL a p r oM (rS k) oM).mono ?_;rintro b z ⟨rfl,t,j,i⟩;rw [s] at j;have m:=(n.trans i);clear i;go_wp2_with fail;go_end0;exact ⟨rfl,t,j,m⟩
def pD {B gk:Nat} {own L T} {k:Nat} {w} (b:WalkE w B own gk L T) (K:k < 257) (A:T.length<=1000):
 Calls prog 94 #[gk,(k:Int),(1:Int)] w λd w'=>d=.returned (.tuple #[])/\WalkE w' B own gk L (T++ [k])/\Grew w w' own own:=by
 have D:=b.q;obtain ⟨l,e,g,x,y,f,m⟩:=b;have O:w.cell? ⟨gk,1,none⟩=some (.pointer (some e)):=(g.cell 1).trans rfl;have Q:=g.lt;have H:gk≠e:=Bk.ne g f dC;go_enter func94,ntmps94;go_wp2_with fail;refine (vE f K A).mono ?_;rintro d w1 ⟨rfl,ht,c⟩;have n:=c.d g H;have p:WaveE w1 B own l L:=by
  obtain ⟨q,N,b⟩:=y;refine ⟨q,N,c.d b.a (Bk.ne b.a f dC),b.base,λlv I=>?_,λa i=>⟨(b.q a i).1,zAl (b.q a i).2 c.size⟩⟩;obtain ⟨G,t,u,v⟩:=b.rows lv I;exact ⟨G,aC t λa r _ j=>c.d j (Bk.ne j f dC),u,λM J=>(v M J).keep c λa S r o j _ d=>by
   have s:a=e:=d;subst s;rw [(aU j f).1] at o;exact absurd o dC⟩
 have z:WalkE w1 B own gk L (T++ [k]):=⟨l,e,n,x,p,ht,m⟩;have E:Grew w w1 own own:=Grew.i (B:=B) (c.mono λa _ d=>by left;rw [show a=e from d,m]) λa i=>(D a i).2;clear ht c n p;go_wp2_with fail;go_end0;exact ⟨rfl,z,E⟩
def nK {B gk own L T k l w} (b:WalkE w B own gk L T) (D:T.Perm (l::k)) (N:l < 257) (E:T.length<=1000):
 Calls prog 94 #[gk,(l:Int),(-1:Int)] w λd w'=>d=.returned (.tuple #[])/\WalkE w' B own gk L k/\Grew w w' own own:=by
 have H:=b.q;obtain ⟨m,e,g,y,z,f,n⟩:=b;have S:w.cell? ⟨gk,1,none⟩=some (.pointer (some e)):=(g.cell 1).trans rfl;have U:=g.lt;have J:gk≠e:=Bk.ne g f dC;go_enter func94,ntmps94;go_wp2_with fail;refine (aDH D f N E).mono ?_;rintro d w1 ⟨rfl,ht,c⟩;have o:=c.d g J;have q:WaveE w1 B own m L:=by
  obtain ⟨r,Q,b⟩:=z;refine ⟨r,Q,c.d b.a (Bk.ne b.a f dC),b.base,λlv K=>?_,λa i=>⟨(b.q a i).1,zAl (b.q a i).2 c.size⟩⟩;obtain ⟨G,u,v,x⟩:=b.rows lv K;exact ⟨G,aC u λa s _ j=>c.d j (Bk.ne j f dC),v,λO M=>(x O M).keep c λa V s p j _ d=>by
   have t:a=e:=d;subst t;rw [(aU j f).1] at p;exact absurd p dC⟩
 have A:WalkE w1 B own gk L k:=⟨m,e,o,y,q,ht,n⟩;have I:Grew w w1 own own:=Grew.i (B:=B) (c.mono λa _ d=>by left;rw [show a=e from d,n]) λa i=>(H a i).2;clear ht c o q;go_wp2_with fail;go_end0;exact ⟨rfl,A,I⟩
structure PermX (w:World) (F:Nat->Prop) (gp ga:Nat) (vl vo vt vf:Value) (R P:Nat) (ks:List Nat) (C:List (Nat×Nat)) (tk:List Bool) (fr:List Nat):Prop where
 at_:PermAt w 0 gp ga vl vo vt vf R P ks C tk fr
 fp:F gp
 fa:F ga
 fl:OwnF F vl
 fo:OwnF F vo
 ft:OwnF F vt
 ff:OwnF F vf
 nd:ks.Nodup
 an:tk.length=C.length
 tkk:∀k,tk[k]?=some true↔k∈ks
 a8:fr.Nodup
 am:∀k,k∈fr↔tk[k]?=some false
 sz:C.length<=1000
def PermE (w:World) (F:Nat->Prop) (gp R P:Nat) (pr:List (Nat×Nat)):Prop:=
 (∃ga vl vo vt vf ks C tk fr,PermX w F gp ga vl vo vt vf R P ks C tk fr/\pr=ks.map λa=>(aF C a,aS C a))/\pr.Pairwise (λc d=>c.1 < d.1)/\∀b∈pr,b.1 < R/\b.2 < P
def PermAt.cI {w w' B gp ga vl vo vt vf R P ks C tk fr} (a:PermAt w B gp ga vl vo vt vf R P ks C tk fr) (b:Vis w w'):PermAt w' B gp ga vl vo vt vf R P ks C tk fr:=
 ⟨b.d a.a dC dC,b.own a.u dC dC,b.own a.t dC dC,b.d a.V dC dC,b.own a.F dC dC,b.own a.M dC dC,a.apart,a.lt,a.lo⟩
section
variable {w w' : World} {F G : Nat -> Prop} {gp R P : Nat} {pr : List (Nat × Nat)}
def PermE.b (c:PermE w F gp R P pr) (f:Vis w w'):PermE w' F gp R P pr:=by
 obtain ⟨⟨ga,vl,vo,vt,vf,ks,C,tk,fr,a,b⟩,d,e⟩:=c;exact ⟨⟨ga,vl,vo,vt,vf,ks,C,tk,fr,⟨a.at_.cI f,a.fp,a.fa,a.fl,a.fo,a.ft,a.ff,a.nd,a.an,a.tkk,a.a8,a.am,a.sz⟩,b⟩,d,e⟩
def PermE.mono (g:PermE w F gp R P pr) (e:∀a,a < w.heap.size->F a->G a):PermE w G gp R P pr:=by
 obtain ⟨⟨ga,vl,vo,vt,vf,ks,C,tk,fr,b,f⟩,i,j⟩:=g;have d:=b.at_;exact ⟨⟨ga,vl,vo,vt,vf,ks,C,tk,fr,⟨d,e _ d.a.lt b.fp,e _ d.V.lt b.fa,λa c=>e a (d.u.lt a c).2 (b.fl a c),λa c=>e a (d.t.lt a c).2 (b.fo a c),λa c=>e a (d.F.lt a c).2 (b.ft a c),λa c=>e a (d.M.lt a c).2 (b.ff a c),b.nd,b.an,b.tkk,b.a8,b.am,b.sz⟩,f⟩,i,j⟩
def PermE.keep (k:PermE w F gp R P pr) (g:Keep G w w') (f:∀b,F b->¬G b):PermE w' F gp R P pr:=by
 obtain ⟨⟨ga,vl,vo,vt,vf,ks,C,tk,fr,a,j⟩,l,m⟩:=k;have c:=a.at_;refine ⟨⟨ga,vl,vo,vt,vf,ks,C,tk,fr,⟨⟨g.d c.a (f _ a.fp),aC c.u λb i d e=>g.d e (f _ (a.fl b d)),aC c.t λb i d e=>g.d e (f _ (a.fo b d)),g.d c.V (f _ a.fa),aC c.F λb i d e=>g.d e (f _ (a.ft b d)),aC c.M λb i d e=>g.d e (f _ (a.ff b d)),c.apart,c.lt,c.lo⟩,a.fp,a.fa,a.fl,a.fo,a.ft,a.ff,a.nd,a.an,a.tkk,a.a8,a.am,a.sz⟩,j⟩,l,m⟩
def PermE.below (b:PermE w F gp R P pr) (c:Below w.heap.size w w'):PermE w' F gp R P pr:=b.keep (G:=λ_=>False) (kF c) λ_ _ a=>a
end
def PermAt.bd {w} {B gp ga:Nat} {vl vo vt vf} {R P:Nat} {ks C tk fr} (a:PermAt w B gp ga vl vo vt vf R P ks C tk fr) (e:Nat):PermAt (w.setCell ⟨gp,3,none⟩ (.int .i64 e)) B gp ga vl vo vt vf e P ks C tk fr:=by
 have d:Keep (λc=>c=gp) w (w.setCell ⟨gp,3,none⟩ (.int .i64 e)):=ka (F:=λc=>c=gp) (ke _ _) (p:=⟨gp,3,none⟩) (.inl rfl) _;exact ⟨a.a.set 3 _,aC a.u λc f _ b=>d.d b (Bk.ne b a.a dC),aC a.t λc f _ b=>d.d b (Bk.ne b a.a dC),d.d a.V (Bk.ne a.V a.a dC),aC a.F λc f _ b=>d.d b (Bk.ne b a.a dC),aC a.M λc f _ b=>d.d b (Bk.ne b a.a dC),a.apart,a.lt,a.lo⟩
def PermAt.ay {w} {B gp ga:Nat} {vl vo vt vf} {R P:Nat} {ks C tk fr} (a:PermAt w B gp ga vl vo vt vf R P ks C tk fr) (e:Nat):PermAt (w.setCell ⟨gp,4,none⟩ (.int .i64 e)) B gp ga vl vo vt vf R e ks C tk fr:=by
 have d:Keep (λc=>c=gp) w (w.setCell ⟨gp,4,none⟩ (.int .i64 e)):=ka (F:=λc=>c=gp) (ke _ _) (p:=⟨gp,4,none⟩) (.inl rfl) _;exact ⟨a.a.set 4 _,aC a.u λc f _ b=>d.d b (Bk.ne b a.a dC),aC a.t λc f _ b=>d.d b (Bk.ne b a.a dC),d.d a.V (Bk.ne a.V a.a dC),aC a.F λc f _ b=>d.d b (Bk.ne b a.a dC),aC a.M λc f _ b=>d.d b (Bk.ne b a.a dC),a.apart,a.lt,a.lo⟩
def aC3 {ks:List Nat} {C b:List (Nat×Nat)} {f:Nat×Nat->Nat×Nat} (c:∀a,a∈ks->(aF b a,aS b a)=f (aF C a,aS C a)):(ks.map λa=>(aF b a,aS b a))=(ks.map λa=>(aF C a,aS C a)).map f:=by
 rw [zCh];exact zFb λa d=>c a d
def aOo {a b c} (d:a < b):inR a c < inR b c:=by
 unfold inR;split <;> split <;> omega
def iS:∀ {n:Nat} {ks:List Nat},ks.Nodup->(∀a∈ks,a < n)->ks.length<=n
 | 0,ks,_,hl=>by
  cases ks with
  | nil=>exact zAs _
  | cons a ks=>exact absurd (hl a (by simp)) oM
 | n+1,ks,h,hl=>by
  have c:=iS (n:=n) (h.erase n) λa e=>by have d:=(h.mem_erase_iff).1 e;have:=hl a d.2;omega
  by_cases b:n∈ks;have:=List.length_erase_of_mem b;omega;rw [List.erase_of_not_mem b] at c;omega
def aBJ {F gp R P b pr w} (N:PermE w F gp R P pr) (aa:b<=R) (a7:R<=100000) (a6:P<=100000):
 Calls prog 105 #[gp,(b:Int)] w λg w'=>g=.returned (.int .i64 0)/\PermE w' F gp (R+1) P (pr.map λd=>(inR d.1 b,d.2))/\Keep F w w':=by
 obtain ⟨⟨ga,vl,vo,vt,vf,ks,C,tk,fr,i,rfl⟩,W,y⟩:=N;have l:=i.at_;have M:w.cell? ⟨gp,3,none⟩=some (.int .i64 R):=(l.a.cell 3).trans rfl;have a1:=l.a.frozen 3;have S:=l.a.lt;have ad:¬((b:Int) > R):=oM;have ac:¬R < b:=oM;have ab:decide ((b:Int) < 0)=false:=zs
 have a0:wrap64 (R+1)=((R+1:Nat):Int):=by rw [dU oM oM];rfl
 have a:=i;clear i l;go_enter func105,ntmps105;go_wp2_with fail;go_quiet (fail)
 rename_i nq
 have Y:∀I,((w.alloc (.cells #[(b:Int)] 3)).drewN I).cell? ⟨gp,3,none⟩=some (.int .i64 R):=λI=>(zEw w _ ⟨gp,3,none⟩ S).trans M;have a9:∀(q:Fn) (first o:Array Value) (w:World),(Instr.makeFunc q first o).run prog w=.ok (.func q first o) w:=λ_ _ _ _=>rfl;go_wp2_with fail;have x:=a.at_.below (bR.alloc nL (.cells #[(b:Int)] 3));have t:PermAt ((w.alloc (.cells #[(b:Int)] 3)).drewN nq) 0 gp ga vl vo vt vf R P ks C tk fr:=x.below (km bR _);have u:=t.bd (R+1);have A:Bk ((w.alloc (.cells #[(b:Int)] 3)).drewN nq) w.heap.size 3 #[(b:Int)]:=kd w _ _;have D:=A.m (p:=⟨gp,3,none⟩) (λg=>by have Z:w.heap.size=gp:=g;omega) (.int .i64 (R+1:Nat));have H:∀e,vl.ownBlock=some e->e≠w.heap.size:=λe m g=>by have:=(a.at_.u.lt e m).2;omega
 have s:∀c,c∈ks->aF C c<=1000000000000/\aS C c<=1000000000000:=λc U=>by have:=y (aF C c,aS C c) (zAy.2 ⟨c,U,rfl⟩);have a2:aF C c < R:=this.1;have a3:aS C c < P:=this.2;omega
 have a8:=iS a.nd a.at_.lt;refine (aBS u a.nd (zj a.sz) D H s).mono ?_;rintro g J ⟨rfl,E,K,n,z,v⟩;have V:Keep F w J:=(ka (F:=F) (((ke _ _).alloc _).drewN _) (p:=⟨gp,3,none⟩) (.inl a.fp) _).trans (E.mono λe _ m=>a.fl e m);have O:PermE J F gp (R+1) P ((ks.map λc=>(aF C c,aS C c)).map λd=>(inR d.1 b,d.2)):=by
  refine ⟨⟨ga,vl,vo,vt,vf,ks,K,tk,fr,⟨v,a.fp,a.fa,a.fl,a.fo,a.ft,a.ff,a.nd,by rw [n];exact a.an,a.tkk,a.a8,a.am,by rw [n];exact a.sz⟩,(aC3 (f:=λd=>(inR d.1 b,d.2)) z).symm⟩,?_,λd i=>?_⟩;exact zDm.2 (W.imp λ{k e} Q=>aOo Q)
  .obtain ⟨j,X,rfl⟩:=zAy.1 i;have:=y j X;have r:∀k,inR k b<=k+1:=λk=>by unfold inR;split <;> omega
   have a5:=r j.1;have a4:=r j.2;constructor;show inR j.1 b < _;omega;show j.2 < _;omega
 clear v z E n s H D A u t x;go_wp2_with fail;go_ret;exact ⟨rfl,O,V⟩
def aBL {F gp R P} (b) {pr w} (N:PermE w F gp R P pr) (aa:b<=P) (a7:R<=100000) (a6:P<=100000):
 Calls prog 106 #[gp,(b:Int)] w λg w'=>g=.returned (.int .i64 0)/\PermE w' F gp R (P+1) (pr.map λd=>(d.1,inR d.2 b))/\Keep F w w':=by
 obtain ⟨⟨ga,vl,vo,vt,vf,ks,C,tk,fr,i,rfl⟩,W,y⟩:=N;have l:=i.at_;have M:w.cell? ⟨gp,4,none⟩=some (.int .i64 P):=(l.a.cell 4).trans rfl;have a1:=l.a.frozen 4;have S:=l.a.lt;have ad:¬((b:Int) > P):=oM;have ac:¬P < b:=oM;have ab:decide ((b:Int) < 0)=false:=zs
 have a0:wrap64 (P+1)=((P+1:Nat):Int):=by rw [dU oM oM];rfl
 have a:=i;clear i l;go_enter func106,ntmps106;go_wp2_with fail;go_quiet (fail)
 rename_i nq
 have Y:∀I,((w.alloc (.cells #[(b:Int)] 3)).drewN I).cell? ⟨gp,4,none⟩=some (.int .i64 P):=λI=>(zEw w _ ⟨gp,4,none⟩ S).trans M;have a9:∀(q:Fn) (first o:Array Value) (w:World),(Instr.makeFunc q first o).run prog w=.ok (.func q first o) w:=λ_ _ _ _=>rfl;go_wp2_with fail;have x:=a.at_.below (bR.alloc nL (.cells #[(b:Int)] 3));have t:PermAt ((w.alloc (.cells #[(b:Int)] 3)).drewN nq) 0 gp ga vl vo vt vf R P ks C tk fr:=x.below (km bR _);have u:=t.ay (P+1);have A:Bk ((w.alloc (.cells #[(b:Int)] 3)).drewN nq) w.heap.size 3 #[(b:Int)]:=kd w _ _;have D:=A.m (p:=⟨gp,4,none⟩) (λg=>by have Z:w.heap.size=gp:=g;omega) (.int .i64 (P+1:Nat));have H:∀e,vl.ownBlock=some e->e≠w.heap.size:=λe m g=>by have:=(a.at_.u.lt e m).2;omega
 have s:∀c,c∈ks->aF C c<=1000000000000/\aS C c<=1000000000000:=λc U=>by have:=y (aF C c,aS C c) (zAy.2 ⟨c,U,rfl⟩);have a2:aF C c < R:=this.1;have a3:aS C c < P:=this.2;omega
 have a8:=iS a.nd a.at_.lt;refine (aBT u a.nd (zj a.sz) D H s).mono ?_;rintro g J ⟨rfl,E,K,n,z,v⟩;have V:Keep F w J:=(ka (F:=F) (((ke _ _).alloc _).drewN _) (p:=⟨gp,4,none⟩) (.inl a.fp) _).trans (E.mono λe _ m=>a.fl e m);have O:PermE J F gp R (P+1) ((ks.map λc=>(aF C c,aS C c)).map λd=>(d.1,inR d.2 b)):=by
  refine ⟨⟨ga,vl,vo,vt,vf,ks,K,tk,fr,⟨v,a.fp,a.fa,a.fl,a.fo,a.ft,a.ff,a.nd,by rw [n];exact a.an,a.tkk,a.a8,a.am,by rw [n];exact a.sz⟩,(aC3 (f:=λd=>(d.1,inR d.2 b)) z).symm⟩,?_,λd i=>?_⟩;exact zDm.2 (W.imp λ{k e} Q=>Q)
  .obtain ⟨j,X,rfl⟩:=zAy.1 i;have:=y j X;have r:∀k,inR k b<=k+1:=λk=>by unfold inR;split <;> omega
   have a5:=r j.1;have a4:=r j.2;constructor;show j.1 < _;omega;show inR j.2 b < _;omega
 clear v z E n s H D A u t x;go_wp2_with fail;go_ret;exact ⟨rfl,O,V⟩
end
section
def sJ:∀ {l m:List Nat},l.Nodup->(∀a∈l,a∈m)->l.length<=m.length
 | [],m,_,_=>zAp _
 | a::l,m,hn,hs=>by
  obtain ⟨f,g⟩:=zDe.1 hn;have b:=hs a (by simp);have:=sJ (l:=l) (m:=m.erase a) g λd c=>by have i:d≠a:=λe=>f (by rw [<-e];exact c);exact (List.mem_erase_of_ne i).2 (hs d (by simp [c]))
  have j:=List.length_erase_of_mem b;have k:=List.length_pos_of_mem b;rw [zCg];omega
def aGN {a:List Nat} {f:Nat->Nat} (k:a.Pairwise (λg i=>f g < f i)) (e:Nat) (p:∀b∈a,f b≠f e):(aT a (a.countP λb=>decide (f b < f e)) e).Pairwise (λg i=>f g < f i):=by
 unfold aT;have m:=λ(d b:Nat) (j:a[d]?=some b)=>aG6 k (f e) d b j;obtain ⟨c,o⟩:∃c,(a.countP λb=>decide (f b < f e))=c:=⟨_,rfl⟩;rw [o] at m⊢;rw [zEx];refine ⟨k.sublist (zEY c a),zEf.2 ⟨λb l=>?_,k.sublist (zGl c a)⟩,λb l r n=>?_⟩;obtain ⟨d,j,rfl⟩:=zDR l;rw [zAw] at j;rw [zED];have s:=m (c+d) a[c+d] (zAa oM);have t:=p a[c+d] (zBj oM);omega;have q:f b < f e:=(by obtain ⟨d,j,rfl⟩:=zDR l;rw [zAj] at j;rw [zEC];exact (m d a[d] (zAa oM)).2 oM);rcases zDf.1 n with rfl | n;exact q;have:=zEx.1 (show (a.take c++a.drop c).Pairwise (λg i=>f g < f i) by rw [zAu];exact k);exact this.2.2 b l r n
def aE9 (tk a b):(tk++ [true])[a]?=some b↔tk[a]?=some b∨(a=tk.length/\b=true):=by
 by_cases e:a < tk.length;rw [zAn e];constructor;exact .inl;rintro (d |⟨d,_⟩);exact d;omega
 .rw [zAo oM,zBg (show tk.length<=a by omega)];by_cases c:a=tk.length
  .subst c;cases b <;> simp
  .rw [zBg zt];simp [c]
def AF (ga:Nat) (vt vf:Value) (a:Nat):Prop:=a=ga∨vt.ownBlock=some a∨vf.ownBlock=some a
section
variable {w : World} {F : Nat -> Prop} {gp ga : Nat} {vl vo vt vf : Value} {R P : Nat} {ks : List Nat} {C : List (Nat × Nat)} {tk : List Bool} {fr : List Nat}
def PermX.bb (k:PermX w F gp ga vl vo vt vf R P ks C tk fr):ArenaE w (AF ga vt vf) ga tk fr:=by
 have a:=k.at_;obtain ⟨d,g,i,_⟩:=aZ a.F;obtain ⟨c,f,j,_⟩:=aZ a.M;subst i j;exact ⟨.inl rfl,d,g,c,f,a.V,cG a.F (zAp _),cG a.M (zAp _),λe b=>.inr (.inl b),λe b=>.inr (.inr b)⟩
def PermX.af (c:PermX w F gp ga vl vo vt vf R P ks C tk fr) {b} (a:AF ga vt vf b):F b:=by
 rcases a with rfl | a | a;exact c.fa;exact c.ft b a;exact c.ff b a
def PermX.cx (c:PermX w F gp ga vl vo vt vf R P ks C tk fr) {b} (a:AF ga vt vf b):b < w.heap.size:=by
 rcases a with rfl | a | a;exact c.at_.V.lt;exact (c.at_.F.lt b a).2;exact (c.at_.M.lt b a).2
def PermX.bj (e:PermX w F gp ga vl vo vt vf R P ks C tk fr):¬AF ga vt vf gp:=by
 have a:=e.at_;rintro (b | b | b);exact Bk.ne a.a a.V dC b;obtain ⟨d,c⟩:=fX a.F b;exact absurd (aU c a.a).1 dC;obtain ⟨d,c⟩:=fX a.M b;exact absurd (aU c a.a).1 dC
def PermX.bn (i:PermX w F gp ga vl vo vt vf R P ks C tk fr) {e f} (c:Bk w e 121 f):¬AF ga vt vf e:=by
 have b:=i.at_;rintro (a | a | a);exact Bk.ne c b.V dC a;obtain ⟨g,d⟩:=fX b.F a;exact absurd (aU d c).1 dC;obtain ⟨g,d⟩:=fX b.M a;exact absurd (aU d c).1 dC
def PermX.aw (g:PermX w F gp ga vl vo vt vf R P ks C tk fr) {e} (c:vo.ownBlock=some e):¬AF ga vt vf e:=by
 have b:=g.at_;obtain ⟨j,f⟩:=fX b.t c;rintro (a | a | a);exact Bk.ne f b.V dC a;obtain ⟨k,i⟩:=fX b.F a;exact absurd (aU f i).1 dC
 .rcases b.apart with d | d
  .rw [d] at c;cases c
  exact d (c.trans a.symm)
end
def aFm (ga b:Nat) (vt vf:Value) (ks:List Nat) (w:World) (d:Ending) (w':World):Prop:=
 ∃(c:Nat) (tk:List Bool) (fr:List Nat),d=.returned (.tuple #[(c:Int),o0])/\c∉ks/\ArenaE w' (Gw (AF ga vt vf) w.heap.size) ga tk fr/\((c < b/\tk.length=b)∨(c=b/\tk.length=b+1/\b<=ks.length))/\(∀a,tk[a]?=some true↔a∈ks∨a=c)/\fr.Nodup/\(∀a,a∈fr↔tk[a]?=some false)/\Keep (AF ga vt vf) w w'
def aDP {F gp ga R P vl vo vt vf ks C tk fr w} (b:PermX w F gp ga vl vo vt vf R P ks C tk fr):
 Calls prog 87 #[ga] w (aFm ga C.length vt vf ks w):=by
 have U:=b.bb;have i:=b.at_;have ad:=b.sz;have E:∀a∈fr,a < tk.length:=λa g=>(zAc.1 ((b.am a).1 g)).1;rcases zDL fr with Z |⟨s,e,a0⟩
 .subst Z;obtain ⟨a8,ab,k,_⟩:=aZ i.F;obtain ⟨z,A,r,_⟩:=aZ i.M;have D:=i.V;have y:=i.F;rw [k,r] at D;rw [k] at y;have t:=oP 0 ga z A tk w D y (zAp _) (zj b.an);refine t.mono ?_;rintro p w' ⟨rfl,n,ae,X,M,a2⟩;have a6:tk.length∉ks:=λv=>by have:=(b.tkk _).2 v;rw [zBg nL] at this;cases this
  obtain ⟨N,O,q,_⟩:=aZ M;have a4:Keep (AF ga vt vf) w w':=n.mono λj _ c=>by rcases c with c | c;exact .inl c;exact .inr (.inl (by rw [k];exact c))
  have H:w'.ownsRow 0 3 1 vf 0 []:=by
   have:=aC (w':=w') (cG i.M (zAp _)) λj a9 _ d=>n.d d λc=>by rcases c with c | c;exact Bk.ne d i.V dC c;obtain ⟨aa,Y⟩:=fX y c;exact absurd (aU d Y).1 dC
   exact this
  rw [r] at H;have o:(tk++ [true]).length=tk.length+1:=zs;have x:=b.an;have W:C.length<=ks.length:=by
   have S:=sJ (l:=List.range C.length) (m:=ks) zDl λa g=>by
    rw [zCj,<-x] at g;cases d:tk[a] with
    | true=>exact (b.tkk a).1 (by rw [zAa g,d])
    | false=>exact absurd ((b.am a).2 (by rw [zAa g,d])) zs
   simpa using S
  refine ⟨tk.length,tk++ [true], [],rfl,a6,⟨.inl (.inl rfl),N,O,z,A,?_,?_,H,?_,?_⟩,.inr ⟨x,by rw [o,x],W⟩,λa=>?_,List.nodup_nil,λa=>?_,a4⟩;rw [o,<-q];exact X;rw [o,<-q];exact M;intro j d;rw [o,<-q] at d;rcases a2 with c |⟨ac,c,Q⟩;rw [c] at d;exact .inl (.inr (.inl (by rw [k];exact d)));rw [c] at d;injection d with d;subst d;exact .inr Q;intro j d;exact .inl (.inr (.inr (by rw [r];exact d)))
  .rw [<-b.tkk a,aE9];simp
  .rw [b.am a,aE9];simp
 .have a1:fr=s++ [e]:=(by simpa using a0);subst a1;have n:=(b.am e).1 zs;have u:=E e zs;have J:=b.a8;have a5:(s++ [e]).length<=tk.length:=iS J E;have t:=yF U u (zj b.an) (by simp at a5;omega);refine t.mono ?_;rintro p w' ⟨rfl,V,a3⟩;have a7:e∉ks:=λv=>by have:=(b.tkk e).2 v;rw [n] at this;cases this
  have K:=zDb.1 J;have I:∀a,(tk.set e true)[a]?=if a=e then some true else tk[a]?:=λa=>by
   rw [zBm];by_cases f:e=a
   .subst f;simp [u]
   .rw [zBw f,zBw (λp=>f p.symm)]
  refine ⟨e,tk.set e true,s,rfl,a7,V.mono λj _ c=>.inl c,.inl ⟨by rw [<-b.an];exact u,by rw [zAt,b.an]⟩,λa=>?_,K.1,λa=>?_,a3⟩
  .rw [I,<-b.tkk a];by_cases f:a=e
   .simp [f]
   .simp [f]
  .rw [I];by_cases f:a=e
   .subst f;rw [zBx rfl];constructor;intro g;exact absurd rfl (K.2.2 a g a zs)
    .intro g;cases g
   .rw [zBw f,<-b.am a];simp [f]
def PermX.c5 {w w':World} {F:Nat->Prop} {gp ga R P k row pos i n0:Nat} {vl' vo':Value} {ks:List Nat} {C C9:List (Nat×Nat)} {tk:List Bool} {fr:List Nat} {AFF:Nat->Prop}
 (W:∀a∈ks,a < C.length) (Y:ks.Nodup) (x:k∉ks) (u:k < C9.length) (I:C.length<=C9.length) (a3:C9.length<=1000) (a5:tk.length=C9.length)
 (S:∀a∈ks,(aF C9 a,aS C9 a)=(aF C a,aS C a)) (a1:ks.Pairwise (λd b=>aF C d < aF C b)) (t:i=ks.countP λa=>decide (aF C a < row)) (Z:∀a∈ks,aF C a≠row)
 (m:Bk w' gp 128 #[ga,vl',vo',.int .i64 R,(P:Int)])
 (X:w'.ownsRow 0 121 2 vl' C9.length (bU (C9.set k (row,pos)))) (a0:w'.ownsRow 0 3 1 vo' (ks.length+1) ((aT ks i k).map sv))
 (l:ArenaE w' AFF ga tk fr) (q:∀b,AFF b->F b) (Q:F ga) (U:F gp) (a7:OwnF F vl') (a8:OwnF F vo') (K:∀b,vo'.ownBlock=some b->¬AFF b)
 (a4:∀a,tk[a]?=some true↔a∈ks∨a=k) (O:fr.Nodup) (N:∀a,a∈fr↔tk[a]?=some false):
 ∃vt vf,PermX w' F gp ga vl' vo' vt vf R P (aT ks i k) (C9.set k (row,pos)) tk fr/\((aT ks i k).map λa=>(aF (C9.set k (row,pos)) a,aS (C9.set k (row,pos)) a))=aT (ks.map λa=>(aF C a,aS C a)) i (row,pos)/\(aT ks i k).Pairwise (λd b=>aF (C9.set k (row,pos)) d < aF (C9.set k (row,pos)) b):=by
 obtain ⟨ad,aa,ac,a9,ab,A,D,E,H,p⟩:=l;have V:i<=ks.length:=by rw [t];exact zBh
 have r:∀a,(aF (C9.set k (row,pos)) a,aS (C9.set k (row,pos)) a)=if a=k then (row,pos) else (aF C9 a,aS C9 a):=λa=>by
  unfold aF aS;rw [zAb,zBm];by_cases j:k=a;subst j;rw [zBx rfl,zBx rfl,zBx u];rfl
  .rw [zBw j,zBw (λe=>j e.symm),zAb]
 have s:∀a∈ks,(aF (C9.set k (row,pos)) a,aS (C9.set k (row,pos)) a)=(aF C a,aS C a):=λa c=>by rw [r,zBw (λe=>x (by rw [<-e];exact c)),S a c]
 have o:=r k;rw [zBx rfl] at o;have y:(aT ks i k).Perm (k::ks):=fU _ _ _;have v:∀a,a∈aT ks i k↔a=k∨a∈ks:=λa=>by rw [y.mem_iff,zDf]
 refine ⟨_,_,⟨⟨m,by rw [zAt];exact X,by rw [cM _ _ V];exact a0,A,D,E,?_,λa c=>?_,⟨zAp _,zAp _⟩⟩,U,Q,a7,a8,λb n=>q b (H b n),λb n=>q b (p b n),y.nodup_iff.2 (zDe.2 ⟨x,Y⟩),by rw [zAt];exact a5,λa=>by rw [a4 a,v a];exact Or.comm,O,N,by rw [zAt];exact a3⟩,?_,?_⟩
 .cases a6:vo'.ownBlock with
  | none=>exact .inl rfl
  | some b=>exact .inr λe=>K b a6 (p b e.symm)
 rw [zAt];rcases (v a).1 c with rfl | c;exact u;exact zAl (W a c) I;rw [qB,o];congr 1;exact zFb λa c=>s a c
 .have g:∀a∈ks,aF (C9.set k (row,pos)) a=aF C a:=λa c=>(Prod.mk.inj (s a c)).1;have z:aF (C9.set k (row,pos)) k=row:=(Prod.mk.inj o).1;have a2:ks.Pairwise (λd b=>aF (C9.set k (row,pos)) d < aF (C9.set k (row,pos)) b):=(by refine List.Pairwise.imp_of_mem (λ{d b} l m J=>?_) a1;rw [g d l,g b m];exact J);have:=aGN (f:=aF (C9.set k (row,pos))) a2 k λa c=>by rw [g a c,z];exact Z a c
  have M:(ks.countP λa=>decide (aF (C9.set k (row,pos)) a < aF (C9.set k (row,pos)) k))=i:=(by rw [t,z];refine zDy λa c=>?_;rw [g a c]);rw [M] at this;exact this
def aAc (w:World) (gp:Nat):Nat:=match w.cell? ⟨gp,1,none⟩ with
 | some (.slice _ a _)=>a
 | _=>0
structure AddL (F:Nat->Prop) (gp ga R P k:Nat) (vo:Value) (ks:List Nat) (C:List (Nat×Nat)) (tk:List Bool) (fr9:List Nat) (AFF:Nat->Prop) (n3:Nat) (w2 wr:World) (A9:Option Addr) (M c9:Nat) (C9:List (Nat×Nat)):Prop where
 a:Bk wr gp 128 #[ga,.slice A9 M c9,vo,(R:Int),(P:Int)]
 own:wr.ownsRow 0 121 2 (.slice A9 M c9) M (bU C9)
 len:C9.length=M
 lo:C.length<=M
 hi:M<=max C.length (k+1)
 get:∀x∈ks,(aF C9 x,aS C9 x)=(aF C x,aS C x)
 ord:wr.ownsRow 0 3 1 vo ks.length (ks.map sv)
 V:ArenaE wr AFF ga tk fr9
 keep:Keep F w2 wr
 fl:OwnF (Gw F w2.heap.size) (.slice A9 M c9)
 k3:n3<=wr.heap.size
def aDX {F gp R P row s pr w} (bW:PermE w F gp R P pr) (cm:row < R) (cj:s < P) (bv:∀M∈pr,M.1≠row) (bt:∀M∈pr,M.2≠s) (br:pr.length<=900):
 Calls prog 45 #[gp,(row:Int),(s:Int)] w λe w'=>e=.returned (.int .i64 0)/\(∃bG,bG.Perm ((row,s)::pr)/\PermE w' (Gw F w.heap.size) gp R P bG)/\Keep F w w':=by
 obtain ⟨⟨ga,vl,vo,vt,vf,ks,C,tk,fr,v,rfl⟩,bB,bi⟩:=bW;obtain ⟨cu,ca,cr,cs,ct⟩:=info_parts wK;have W:=v.at_;have bA:=zDm.1 bB;have bz:ks.Pairwise (λW a=>aF C W < aF C a):=bA;have bw:∀d∈ks,aF C d≠row:=λd x=>bv _ (zAy.2 ⟨d,x,rfl⟩);have bu:∀d∈ks,aS C d≠s:=λd x=>bt _ (zAy.2 ⟨d,x,rfl⟩);have c5:∀d∈ks,aF C d < R/\aS C d < P:=λd x=>bi _ (zAy.2 ⟨d,x,rfl⟩);have cc:ks.length<=900:=by simpa using br
 obtain ⟨Q,aQ⟩:∃Q,(ks.countP λd=>decide (aF C d < row))=Q:=⟨_,rfl⟩;have bn:Q<=ks.length:=by rw [<-aQ];exact zBh
 have bl:decide (∃d∈ks,aF C d=row)=false:=by rw [decide_eq_false_iff_not];rintro ⟨d,x,e⟩;exact bw d x e
 have bm:kH (λd=>decide (aS C d=s)) ks 0=-1:=mD (λd x=>by simpa using bu d x) 0;have aH:=lS (B:=0) (gp:=gp) (ga:=ga) (vl:=vl) (vo:=vo) (vt:=vt) (vf:=vf) (R:=R) (P:=P) (ks:=ks) (C:=C) (tk:=tk) (fr:=fr) (w:=w) row W bz oM;rw [aQ,bl] at aH;have aO:=λbK c2=>kE (B:=0) (gp:=gp) (ga:=ga) (vl:=vl) (vo:=vo) (vt:=vt) (vf:=vf) (R:=R) (P:=P) (ks:=ks) (C:=C) (tk:=tk) (fr:=fr) (w:=bK) s c2 oM;simp only [bm] at aO;have bM:w.cell? ⟨gp,3,none⟩=some (.int .i64 R):=(W.a.cell 3).trans rfl;have bN:w.cell? ⟨gp,4,none⟩=some (.int .i64 P):=(W.a.cell 4).trans rfl;obtain ⟨K,J⟩:=eqx ks.length;obtain ⟨V,D⟩:=eqx C.length;have cM:K<=900:=oM;have cF:V<=1000:=by rw [<-D];exact v.sz
 have ax:=v;rw [J] at bn;clear bA bl bm bB bi bv bt bu v W br cc;go_enter func45,ntmps45;go_wp2_with fail;refine aH.mono ?_;clear aH;rintro e w1 ⟨rfl,ag⟩;have ae:=ax.at_.below ag;have aw:=ae;clear ae bM bN;go_wp2_with fail;refine (aO w1 aw).mono ?_;rintro e q ⟨rfl,aJ⟩;have bh:=ag.trans (aJ.mono ag.size);have o:PermX q F gp ga vl vo vt vf R P ks C tk fr:= { ax with at_:=aw.below aJ };have bL:q.cell? gp=some (.pointer (some ga)):=(o.at_.a.cell 0).trans rfl;clear aJ aw ag aO ax;go_wp2_with fail;have aE:=aDP (F:=F) (gp:=gp) (ga:=ga) (R:=R) (P:=P) (vl:=vl) (vo:=vo) (vt:=vt) (vf:=vf) (ks:=ks) (C:=C) (tk:=tk) (fr:=fr) (w:=q) o;unfold aFm at aE;refine aE.mono ?_;clear aE;rintro e t ⟨d,a9,a2,rfl,ch,bd,bj,co,c7,c6,a6⟩;have a4:=a6.d o.at_.a o.bj;have ao:=aC (w':=t) o.at_.u λa f _ b=>a6.d b (o.bn b);have ap:=aC (w':=t) o.at_.t λa f b x=>a6.d x (o.aw b);obtain ⟨av,az,bD,_⟩:=aZ ao;obtain ⟨aa,ad,E,_⟩:=aZ ap;have an:vl=.slice av V az:=by rw [bD,D]
 have cQ:vo=.slice aa K ad:=by rw [E,J]
 rw [D] at ao;rw [J] at ap;have X:t.cell? ⟨gp,1,none⟩=some (.slice av V az):=(a4.cell 1).trans (by rw [an];rfl);have aD:=a4.frozen 1;have c8:=a4.lt;have cK:d<=V:=zj D
 have bp:Keep F q t:=a6.mono λa _ l=>o.af l;have b8:=(bd.mono (G:=λa=>Gw (AF ga vt vf) q.heap.size a/\a < t.heap.size) λa b l=>⟨l,b⟩);have bc:=(zEw t (Obj.cells #[o0,o0] 121) ⟨gp,1,none⟩ c8).trans X;clear bd bD E bL;have bo:AddL F gp ga R P d vo ks C a9 a2 (λa=>Gw (AF ga vt vf) q.heap.size a/\a < t.heap.size) t.heap.size q t av V az C:=
  ⟨by have:=a4;rwa [an] at this,by have:=ao;rwa [an] at this,D,by rw [D];exact zAs _,by have:=D;omega,λM _=>rfl,by rw [J];exact ap,b8,bp,λa b=>.inl (o.fl a (by rw [an];exact b)),zAs _⟩
 clear X aD bc;go_wp2_with fail;go_loopw [] (λwr=>∃I g y u,AddL F gp ga R P d vo ks C a9 a2 (λa=>Gw (AF ga vt vf) q.heap.size a/\a < t.heap.size) t.heap.size q wr I g y u) (λwr=>d+1 - aAc wr gp)
 case atStart=>exact ⟨_,_,_,_,bo⟩
 case round=>
  obtain ⟨I,g,y,u,j⟩:=hrel;clear bo a4 ao ap b8 bp a6;have X:wr.cell? ⟨gp,1,none⟩=some (.slice I g y):=(j.a.cell 1).trans rfl;have aD:=j.a.frozen 1;have c9:=j.a.lt;have bY:=j.len;have bZ:=j.lo;have c0:=j.hi;rw [D] at bZ c0;by_cases bs:g<=d
  .have cd:=zBz bs;have ce:(g:Int)<=d:=oM;obtain rfl:g=V:=oM;have bc:=(zEw wr (Obj.cells #[o0,o0] 121) ⟨gp,1,none⟩ c9).trans X;have ck:aAc wr gp=g:=(by unfold aAc;rw [X]);go_wp2_with (at_builtin;refine bP _ rfl (.tmp 72) (.tmp 74) _ rfl 0 121 cu (.agg #[o0,o0]) 2 16 underlying73 ca cr cs ct rfl dC (.slice I g y) g _ rfl j.own rfl rfl (by simp [Value.oneCell']) zx oM (zAp _) ?_;intro cU H aW aL cP bg;have ai:=j.a.grown aL (bC j.own j.a dC);have cB:H.cell? ⟨gp,1,none⟩=some (.slice I g y):=(ai.cell 1).trans rfl;have cD:=ai.frozen 1;obtain ⟨N,O,rfl,cf⟩:=aR aW;obtain ⟨ab,ba,U,b9⟩:=hqq4 ai aW aL bg;clear cf aW aL bg ai);have a7:Keep (λa=>(Value.slice I g y).ownBlock=some a) wr H:=⟨U.os,U.tape,U.output,U.size,λa b am=>U.block a b λe=>am e.symm⟩
   have be:AddL F gp ga R P d vo ks C a9 a2 (λa=>Gw (AF ga vt vf) q.heap.size a/\a < t.heap.size) t.heap.size q (H.setCell ⟨gp,1,none⟩ (.slice N (g+1) O)) N (g+1) O (u++ [(0,0)]):=by
    have L:=j;have Y:∀a m f,m≠128->Bk H a m f->Bk (H.setCell ⟨gp,1,none⟩ (.slice N (g+1) O)) a m f:=λa m f ht b=>b.m (p:=⟨gp,1,none⟩) (Bk.ne b ab ht) _;have cN:∀a,(Value.slice I g y).ownBlock=some a->Gw F q.heap.size a:=λa b=>L.fl a b;have am:∀a m f,m≠121->Bk wr a m f->¬((Value.slice I g y).ownBlock=some a):=λa m f ht b e=>by obtain ⟨bO,aK⟩:=fX L.own e;exact ht (aU b aK).1
    refine ⟨ab.set 1 _,?_,by rw [zAi,L.len];rfl,by have:=L.lo;omega,by omega,λM v=>?_,?_,?_,?_,?_,?_⟩;rw [lZ];exact aC ba λa f _ b=>Y _ _ _ dC b
    .rw [<-L.get M v];have cS:=o.at_.lt M v;unfold aF aS;rw [zAb,zAb,zAn (zk L.lo L.len)]
    exact aC L.ord λa f _ b=>Y _ _ _ dC (a7.d b (am _ _ _ dC b));refine (L.V.keep a7 λa m f ht b _=>am a m f (λe=>by subst e;revert ht;decide) b).keep (G:=λa=>a=gp) (ka (F:=λa=>a=gp) (ke _ _) (p:=⟨gp,1,none⟩) (.inl rfl) _) λa m f ht b _ e=>?_;have aB:a=gp:=e;subst aB;rw [(aU b ab).1] at ht;revert ht;decide;refine ka (F:=F) (L.keep.trans' a7 λa b l=>?_) (p:=⟨gp,1,none⟩) (.inl o.fp) _;rcases L.fl a l with z | z;exact z;omega;intro a b;rcases b9 with e | e;rw [e] at b;exact L.fl a b;rw [e] at b;injection b with b;subst b;exact .inr (zj L.keep.size);have ae:=L.k3;have bX:=a7.size;have cE:(H.setCell ⟨gp,1,none⟩ (.slice N (g+1) O)).heap.size=H.heap.size:=(by simp [World.setCell]);omega
   have cl:aAc (H.setCell ⟨gp,1,none⟩ (.slice N (g+1) O)) gp=g+1:=(by have bQ:(H.setCell ⟨gp,1,none⟩ (.slice N (g+1) O)).cell? ⟨gp,1,none⟩=some (.slice N (g+1) O):=(be.a.cell 1).trans rfl;unfold aAc;rw [bQ]);clear a7 ab ba U b9 j;go_roundw
   case rel=>exact ⟨_,_,_,_,be⟩
   case measure=>rw [ck,cl];omega
  .have cd:=zBy bs;have ce:¬(g:Int)<=d:=oM;have a8:d < g:=oM;have cJ:(d:Int) < g:=oM;obtain ⟨r,cT,aX,_,cG⟩:=kj j.own oM;injection aX with aX _ hs9c;subst aX hs9c;obtain ⟨cA,ah⟩:=fE j.own;have cI:gp≠r:=Bk.ne j.a ah dC;have cy:=ah.frozen (d*2);have cz:=ah.frozen (d*2+1);obtain ⟨b6,b7⟩:=cL u d (by rw [bY];exact a8);have bI:=(kh j.own (d*2) oM).trans b6;have bJ:=(kh j.own (d*2+1) oM).trans b7;generalize aF u d=u0 at bI b6;generalize aS u d=u1 at bJ b7;obtain ⟨aa,ad,E,_⟩:=aZ j.ord;rw [J] at E;have aA:wr.cell? ⟨gp,2,none⟩=some (.slice aa K ad):=(j.a.cell 2).trans (by rw [E];rfl);clear b6 b7;go_wp2_with fail;have b2:((wr.setCell ⟨r,d*2,none⟩ (.int .i64 row)).setCell ⟨r,d*2+1,none⟩ (.int .i64 s)).ownsRow 0 121 2 (.slice (some r) g y) g (bU (u.set d (row,s))):=(by have bH:=(kk j.own (d*2) (.int .i64 row)).1;rw [mA (C:=u) (k:=d) row (by rw [j.len];exact a8)] at bH;have aq:=(kk bH (d*2+1) (.int .i64 s)).1;rw [pR _ d s (by rw [zAt,j.len];exact a8)] at aq;rw [List.set_set] at aq;have bS:aF (u.set d (row,aS u d)) d=row:=(by unfold aF;rw [zAb,zDq (by rw [j.len];exact a8)];rfl);rw [bS] at aq;exact aq);have a0:Keep (λa=>a=r) wr ((wr.setCell ⟨r,d*2,none⟩ (.int .i64 row)).setCell ⟨r,d*2+1,none⟩ (.int .i64 s)):=((ke (λa=>a=r) wr).setCell (p:=⟨r,d*2,none⟩) (.inl rfl) _).setCell (p:=⟨r,d*2+1,none⟩) (.inl rfl) _;have b0:((wr.setCell ⟨r,d*2,none⟩ (.int .i64 row)).setCell ⟨r,d*2+1,none⟩ (.int .i64 s)).heap.size=wr.heap.size:=(by simp [World.setCell]);rw [<-b0];clear bI bJ cy cz X aA aD;generalize (wr.setCell ⟨r,d*2,none⟩ (.int .i64 row)).setCell ⟨r,d*2+1,none⟩ (.int .i64 s)=w7 at b2 a0 b0⊢;have al:∀a m f,m≠121->Bk wr a m f->¬(a=r):=λa m f ht b e=>by subst e;exact ht (aU b ah).1
   have aN:=a0.d j.a (al _ _ _ dC j.a);have b4:=aC (w':=w7) j.ord λa f _ b=>a0.d b (al _ _ _ dC b);have bf:=j.V.keep a0 λa m f ht b _=>al a m f (λe=>by subst e;revert ht;decide) b;have bq:Keep F q w7:=j.keep.trans' a0 λa b l=>by have bT:a=r:=l;rcases j.fl a (by rw [bT];rfl) with z | z;exact z;omega
   have a3:Below w7.heap.size w7 (w7.alloc (.cells #[(d:Int)] 3)):=bR.alloc nL _;have ak:=kd w7 3 #[(d:Int)];have a1:=aP b4 a3;have b3:=aP b2 a3;have aj:=aN.below a3 aN.lt;have aG:=bf.keep (G:=λ_=>False) (kF a3) λ_ _ _ _ _ _ l=>l;have aV:Keep F q (w7.alloc (.cells #[(d:Int)] 3)):=bq.alloc _;obtain ⟨bV,aM⟩:=eqx w7.heap.size;rw [aM] at ak;rw [aM];have bF:∀a,vo.ownBlock=some a->a < w7.heap.size:=λa b=>(b4.lt a b).2;rw [J,E] at a1;have b5:wr.heap.size<=(w7.alloc (.cells #[(d:Int)] 3)).heap.size:=zt;have bb:=b5;clear b5;generalize w7.alloc (.cells #[(d:Int)] 3)=w8 at bb ak a1 b3 aj aG aV⊢;have aT:=aBQ (B:=0) (A:=aa) (n:=K) (c:=ad) (i:=Q) (ks:=ks) (gx:=bV) (k:=d) (w:=w8) a1 ak (λa b e=>by have:=bF a (by rw [E];exact b);omega) (zAp _) bn oM;unfold vQ at aT;refine aT.mono ?_;clear aT;rintro e S ⟨au,ay,rfl,ci,Z,aI⟩;rw [<-E] at Z aI a1;have b1:∀a m f,m≠3->Bk w8 a m f->¬(vo.ownBlock=some a):=λa m f ht b e=>by obtain ⟨bO,aK⟩:=fX a1 e;exact ht (aU b aK).1
   have a5:=Z.d aj (b1 _ _ _ dC aj);have cp:=aC (w':=S) b3 λa f _ b=>Z.d b (b1 _ _ _ dC b);have bE:∀a,vo.ownBlock=some a->¬(Gw (AF ga vt vf) q.heap.size a/\a < t.heap.size):=λa b l=>by rcases l.1 with l | l;exact o.aw b l;have:=(o.at_.t.lt a b).2;omega
   have c4:=aG.keep Z λa m f _ _ l e=>bE a e l;have cb:Keep F q S:=aV.trans' Z λa _ l=>o.fo a l;have aA:S.cell? ⟨gp,2,none⟩=some vo:=(a5.cell 2).trans rfl;rw [E] at aA;have cC:=a5.frozen 2;have cH:=a5.lt;clear Z a1 b3 aj aG ak a3 bq bf b4 aN a0 b2 b0 aM bF b1 al;go_wp2_with fail;go_ret;have aY:Keep (λa=>a=gp) S (S.setCell ⟨gp,2,none⟩ (.slice au (K+1) ay)):=ka (F:=λa=>a=gp) (ke _ _) (p:=⟨gp,2,none⟩) (.inl rfl) _;have Y:∀a m f,m≠128->Bk S a m f->¬(a=gp):=λa m f ht b e=>by subst e;exact ht (aU b a5).1
   have cO:=bh.size;have cR:=aV.size;have b5:=bb;have c1:g<=1000:=(by rcases bj with ac | ac;have:=D;omega;have:=D;have:=J;omega);have cg:∀a,Gw F q.heap.size a->Gw F w.heap.size a:=λa l=>by rcases l with l | l;exact .inl l;exact .inr oM
   have L:=j
   obtain ⟨cw,cv,c3,bx,cn⟩:=PermX.c5 (w:=w) (w':=S.setCell ⟨gp,2,none⟩ (.slice au (K+1) ay)) (F:=Gw F w.heap.size) (gp:=gp) (ga:=ga) (R:=R) (P:=P) (k:=d) (row:=row) (pos:=s) (i:=Q) (n0:=0) (vl':=.slice (some r) g y) (vo':=.slice au (K+1) ay) (ks:=ks) (C:=C) (C9:=u) (tk:=a9) (fr:=a2) (AFF:=λa=>Gw (AF ga vt vf) q.heap.size a/\a < t.heap.size)
    o.at_.lt o.nd ch (by rw [L.len];exact a8) (by rw [L.len];exact L.lo) (by rw [L.len];exact c1) (by
     rw [L.len];rcases bj with ac | ac;have:=L.lo;have:=L.hi;omega
     .have:=L.lo;have:=L.hi;omega) L.get bz aQ.symm bw (a5.set 2 _)
    (by rw [L.len];exact aC cp λa f _ b=>aY.d b (Y _ _ _ dC b))
    (by rw [J];exact aC ci λa f _ b=>aY.d b (Y _ _ _ dC b))
    (c4.keep aY λa m f ht b _=>Y a m f (λe=>by subst e;revert ht;decide) b)
    (λa l=>by
     rcases l.1 with z | z;exact .inl (o.af z)
     .exact .inr oM)
    (.inl o.fa) (.inl o.fp) (λa b=>cg a (L.fl a b))
    (λa b=>by
     rcases aI with e |⟨z,e,aB⟩;exact .inl (o.fo a (by rw [<-e];exact b))
     .rw [e] at b;injection b with b;subst b;exact .inr oM)
    (λa b l=>by
     rcases aI with e |⟨z,e,aB⟩;exact bE a (by rw [<-e];exact b) l
     .rw [e] at b;injection b with b;subst b;have ae:=l.2;have bX:=L.k3;omega)
    co c7 c6
   refine ⟨rfl,⟨_,?_,⟨ga,_,_,cw,cv,_,_,a9,a2,c3,rfl⟩,zDm.2 cn,λM v=>?_⟩,(kF bh).trans (ka (F:=F) cb (p:=⟨gp,2,none⟩) (.inl o.fp) _)⟩;rw [bx];exact fU _ _ _;rw [bx] at v;rcases zDf.1 ((fU _ _ _).subset v) with rfl | v;exact ⟨cm,cj⟩;obtain ⟨cx,cq,rfl⟩:=zAy.1 v;exact c5 cx cq
def PermE.inj {w F gp R P pr} (f:PermE w F gp R P pr) {d e} (j:d∈pr) (k:e∈pr) (l:d.1=e.1):d=e:=by
 obtain ⟨b,g,rfl⟩:=zDR j;obtain ⟨c,i,rfl⟩:=zDR k;rcases zDD b c with a | a | a;have:=zAr.1 f.2.1 b c g i a;omega;subst a;rfl;have:=zAr.1 f.2.1 c b i g a;omega
end
open Go.Sort (Holds)
def aBM {n gp r E s a} (f g) {b} (e:PRd b n gp r E s a) (y:f < a.length) (z:g < a.length):
 Calls prog 162 #[(f:Int),(g:Int),n] b λi w'=>i=.returned (.int .i64 (Lib.compareInt ((aF a f:Nat):Int) ((aF a g:Nat):Int)))/\∃c,w'=b.drewN c:=by
 obtain ⟨K,H,O,rfl,t,u⟩:=e.at y;obtain ⟨M,b1,Q,d,v,x⟩:=e.at z;injection d with d;injection d with d e2;subst d e2;have I:=e.box;have J:=e.sl;obtain ⟨l,p⟩:=eqx (aF a f);obtain ⟨m,q⟩:=eqx (aF a g);rw [p] at t⊢;rw [q] at v⊢;obtain ⟨G,k⟩:=eqx (Lib.compareInt (l:Int) (m:Int));have D:∀c:Nat,Calls prog 140 #[(l:Int),(m:Int)] (b.drewN c) λi w'=>i=.returned (.int .i64 G)/\∃F,w'=b.drewN F:=λc=>by have o:=AnyG.cmp_Compare_int shCmp (l:Int) (m:Int) (b.drewN c);rw [k] at o;exact Calls.mono o λ_ _ ⟨A,C⟩=>⟨A,c,C⟩
 rw [k];clear e u x p q k;go_enter func162,ntmps162;go_wp2_with fail;go_quiet ((with_reducible exact D _));go_wp2_with fail;go_ret;exact ⟨rfl,_,rfl⟩
def aMZ {b g f d} (a:mvR b g f=mvR b g d):f=d:=by
 unfold mvR inR bN at a;by_cases e:f=b
 .by_cases c:d=b;omega
  .rw [zBx e,zBw c] at a;split at a <;> split at a <;> omega
 .by_cases c:d=b
  .rw [zBw e,zBx c] at a;split at a <;> split at a <;> omega
  .rw [zBw e,zBw c] at a;split at a <;> split at a <;> split at a <;> split at a <;> omega
def aOc {a c b R} (d:a < R) (ht:c < R) (e:b < R):mvR a c b < R:=by
 unfold mvR inR bN;split;exact ht
 .split <;> split <;> omega
def PermX.drewN {w b gp d k l m i R P f a g c} (e:PermX w b gp d k l m i R P f a g c) (n):PermX (w.drewN n) b gp d k l m i R P f a g c:=
 { e with at_:=e.at_.below (km bR _)}
def PermX.B {w w' s gp u y g z x R P n o r v t} (i:PermX w s gp u y g z x R P n r v t) (l:o.Perm n) (f:Keep (λc=>g.ownBlock=some c) w w') (D:w'.ownsRow 0 3 1 g n.length (o.map sv)):PermX w' s gp u y g z x R P o r v t:=by
 have a:=i.at_;have k:∀c p d,Bk w c p d->p≠3->¬(g.ownBlock=some c):=λc p d b ht e=>by obtain ⟨F,A⟩:=fX a.t e;exact ht (aU b A).1
 refine { i with at_:=⟨f.d a.a (k _ _ _ a.a dC),aC a.u λc d _ b=>f.d b (k _ _ _ b dC),by rw [l.length_eq];exact D,f.d a.V (k _ _ _ a.V dC),aC a.F λc d _ b=>f.d b (k _ _ _ b dC),aC a.M λc d b C=>f.d C λe=>?_,a.apart,λq E=>a.lt q (l.subset E),a.lo⟩,nd:=l.nodup_iff.2 i.nd,tkk:=λq=>(i.tkk q).trans l.mem_iff.symm };rcases a.apart with m | m
 .rw [m] at e;cases e
 exact m (e.trans b.symm)
def aDQ {x gp W s R P a5 M a6 a4 b d a3 V w} (q:PermX w x gp W a5 M a6 a4 R P b d a3 V) (C:Bk w s 87 #[gp]) (al:b≠ []) (ah:∀u∈b,∀v∈b,aF d u=aF d v->u=v):
 ∃O p,M=.slice O b.length p/\Calls prog 84 #[.slice O b.length p,.func (.func 162) #[] #[s]] w λm w'=>m=.returned (.tuple #[])/\∃I,I.Perm b/\I.Pairwise (λe g=>aF d e < aF d g)/\PermX w' x gp W a5 M a6 a4 R P I d a3 V/\Keep x w w':=by
 have H:0 < b.length:=List.length_pos_iff.2 al;have e:=q.at_;obtain ⟨l,p,m,_,G⟩:=kj e.t H;refine ⟨_,p,m,?_⟩;have Z:=e.t;rw [m] at Z;obtain ⟨av,F,ae,ak,aj,ax,ac⟩:=wL Z H;obtain ⟨k0,ai⟩:∃i,i∈b:=zFe H;obtain ⟨a,E⟩:∃a,d.length=a+1:=⟨d.length - 1,by have:=e.lt k0 ai;omega⟩;have Y:∀i∈b,i < a+1:=λi n=>by rw [<-E];exact e.lt i n
 have t:(gN a b).size=b.length:=by simp [gN]
 have aa:=tC (c:=a) F Y (iK zs oM ac);obtain ⟨a7,aq,a8,A,az⟩:=e.cp (C.cell 0) (kg w.heap.size w);have ad:CmpReads prog 162 #[s] (fS a) (cfK a (aF d)) l 0 (gN a b).size w:=λJ o z ay u v=>by
  have i:=kV (enc:=fS a) (w:=w) G 0 J z o;have D:∀g K y,Bk w g K y->K≠3->¬(g=l):=λg K y ab ht r=>by subst r;exact ht (aU ab F).1
  have an:PRd (sortWorld (fS a) w l 0 J z o) s gp a7 aq a8 d:=by refine ⟨((i.d C (D _ _ _ C dC)).cell 0).trans rfl,((i.d e.a (D _ _ _ e.a dC)).cell 1).trans (by rw [A];rfl),?_⟩;have X:=aC (w':=sortWorld (fS a) w l 0 J z o) e.u λg y _ n=>i.d n (D _ _ _ n dC);rw [A] at X;have a9:=aZ e.u;obtain ⟨ar,au,U,_⟩:=a9;rw [A] at U;injection U with e81 e82 e83;subst e82;exact Rd.s X
  exact aBM u.val v.val an (by rw [E];exact u.isLt) (by rw [E];exact v.isLt)
 have a2:=Any.slices_SortFunc shSort (fS a) (oC a) (cfK a (aF d)) (aMx a (aF d)) 162 #[s] l 0 p (gN a b) w (enters_of func162 kR rfl) ad.lays aa G (by rw [t];have:=iS q.nd e.lt;have:=q.sz;omega);rw [t] at a2;refine a2.mono ?_;rintro aw w' ⟨rfl,Q,nq,o,a1,ap,rfl⟩;obtain ⟨a0,ao⟩:=aEo (f:=aF d) Y (by rw [t];exact a1) (by rw [t];exact ap) q.nd ah;have af:Q.size=b.length:=by rw [a1.1,t]
 have n:=kV (enc:=fS a) (w:=w) G 0 nq Q o;have am:=aKn (base:=0) (k:=nq) (os:=o) af F (zAp _) ak aj ae;have ag:x l:=q.fo l (by rw [m];rfl);exact ⟨rfl,_,a0,ao,q.B a0 (n.mono λg _ r=>by rw [m,show g=l from r];rfl) (by rw [m];exact am),n.mono λg _ r=>by rw [show g=l from r];exact ag⟩
def iB {F gp R P} (d) {z1 pr w} (al:PermE w F gp R P pr) (av:d < R) (aw:z1 < R) (aI:R<=100000) (aH:P<=100000) (ac:pr≠ []):
 Calls prog 103 #[gp,(d:Int),(z1:Int)] w λg w'=>g=.returned (.int .i64 0)/\(∃pr',pr'.Perm (pr.map λf=>(mvR d z1 f.1,f.2))/\PermE w' F gp R P pr')/\Keep F w w':=by
 obtain ⟨⟨C,y,W,X,V,e,c,U,A,m,rfl⟩,af,a6⟩:=al;have v:=m.at_;have ar:e≠ []:=λg=>ac (by rw [g];rfl);have aJ:=v.a.lt;have aN:decide ((d:Int) < 0)=false:=zs
 have aO:decide ((z1:Int) < 0)=false:=zs
 have aP:¬R<=d:=oM;have aQ:¬R<=z1:=oM;have aR:¬(d:Int)>=R:=oM;have aT:¬(z1:Int)>=R:=oM;obtain ⟨w1,q⟩:=eqx (((w.alloc (.cells #[gp] 87)).alloc (.cells #[(d:Int)] 3)).alloc (.cells #[(z1:Int)] 3));have a5:Below w.heap.size w w1:=by rw [<-q];exact ((bR.alloc nL _).alloc zs _).alloc zt _
 have D:Bk w1 w.heap.size 87 #[gp]:=by rw [<-q];exact ((kd w _ _).alloc _).alloc _
 have G:Bk w1 (w.heap.size+1) 3 #[(d:Int)]:=by rw [<-q];have:=(kd (w.alloc (.cells #[gp] 87)) 3 #[(d:Int)]).alloc (.cells #[(z1:Int)] 3);simpa using this
 have H:Bk w1 (w.heap.size+2) 3 #[(z1:Int)]:=by rw [<-q];have:=kd ((w.alloc (.cells #[gp] 87)).alloc (.cells #[(d:Int)] 3)) 3 #[(z1:Int)];simpa using this
 have b:PermX w1 F gp C y W X V R P e c U A:= { m with at_:=v.below a5 };have Q:∀i,y.ownBlock=some i->i < w.heap.size:=λi o=>(v.u.lt i o).2;have ay:∀n,(w1.drewN n).cell? w.heap.size=some (.pointer (some gp)):=λn=>(D.cell 0).trans rfl;have az:∀n,(w1.drewN n).cell? ⟨w.heap.size+1,0,none⟩=some (.int .i64 d):=λn=>(G.cell 0).trans rfl;have aA:∀n,(w1.drewN n).cell? ⟨w.heap.size+2,0,none⟩=some (.int .i64 z1):=λn=>(H.cell 0).trans rfl;have aC:w1.cell? w.heap.size=some (.pointer (some gp)):=(D.cell 0).trans rfl;have aD:w1.cell? ⟨w.heap.size+1,0,none⟩=some (.int .i64 d):=(G.cell 0).trans rfl;have aE:w1.cell? ⟨w.heap.size+2,0,none⟩=some (.int .i64 z1):=(H.cell 0).trans rfl;have aB:w1.cell? ⟨gp,3,none⟩=some (.int .i64 R):=(b.at_.a.cell 3).trans rfl;have aK:=b.at_.a.lt;have a2:∀a,a∈e->aF c a < R/\aS c a < P:=λa k=>a6 (aF c a,aS c a) (zAy.2 ⟨a,k,rfl⟩);have ao:∀f∈e,∀r∈e,aF c f=aF c r->f=r:=λf au r x g=>by have ae:=zDm.1 af;obtain ⟨s,a8,rfl⟩:=zDR au;obtain ⟨j,a9,rfl⟩:=zDR x;rcases zDD s j with l | l | l;have am:aF c e[s] < aF c e[j]:=zAr.1 ae s j a8 a9 l;omega;subst l;rfl;have am:aF c e[j] < aF c e[s]:=zAr.1 ae j s a9 a8 l;omega
 have ai:=lhd q;clear m v af a6 q ac;go_enter func103,ntmps103;go_wp2_with fail;rw [ai.out];go_quiet (fail)
 rename_i nq
 have aM:∀(a1:Fn) (first Z:Array Value) (w:World),(Instr.makeFunc a1 first Z).run prog w=.ok (.func a1 first Z) w:=λ_ _ _ _=>rfl;go_wp2_with fail;have p:=b.drewN nq;have aq:=iS p.nd p.at_.lt;refine (yV p.at_ p.nd (zj p.sz) (G.drewN nq) (λi o g=>by have:=Q i o;omega) (H.drewN nq) (λi o g=>by have:=Q i o;omega) (λa k=>by have:=a2 a k;omega)).mono ?_;rintro g t ⟨rfl,J,z,K,I,a4⟩;have O:∀a,a∈e->aF z a=mvR d z1 (aF c a):=λa k=>(Prod.mk.inj (I a k)).1;have u:PermX t F gp C y W X V R P e z U A:=⟨a4,b.fp,b.fa,b.fl,b.fo,b.ft,b.ff,b.nd,by rw [K];exact b.an,b.tkk,b.a8,b.am,by rw [K];exact b.sz⟩;have E:Bk t w.heap.size 87 #[gp]:=J.d (D.drewN nq) λg=>by have:=Q _ g;omega
 have ap:Keep F w t:=(kF (km a5 nq)).trans (J.mono λi _ o=>b.fl i o);obtain ⟨ah,ak,a0,an⟩:=aDQ u E ar (λf m r x g=>ao f m r x (aMZ (by rw [<-O f m,<-O r x,g])));have aj:t.cell? ⟨gp,2,none⟩=some (.slice ah e.length ak):=(u.at_.a.cell 2).trans (by rw [a0];rfl);have aG:t.cell? w.heap.size=some (.pointer (some gp)):=(E.cell 0).trans rfl;have aL:=u.at_.a.lt;have Y:=lhd I;clear I u E J K a4 O p aq aC aD aE ay az aA aB a0;go_wp2_with fail;refine an.mono ?_;rintro g ag ⟨rfl,ax,M,ad,a3,aa⟩;have a7:(∃pr',pr'.Perm ((e.map λa=>(aF c a,aS c a)).map λf=>(mvR d z1 f.1,f.2))/\PermE ag F gp R P pr')/\Keep F w ag:=by refine ⟨⟨_,?_,⟨C,y,W,X,V,ax,z,U,A,a3,rfl⟩,zDm.2 ad,λf m=>?_⟩,ap.trans aa⟩;refine (M.map _).trans ?_;rw [zCh];refine List.Perm.of_eq (zFb λa k=>?_);exact Y a k;obtain ⟨a,k,rfl⟩:=zAy.1 m;have ab:=M.subset k;have l:=a2 a ab;rw [Y a ab];exact ⟨aOc av aw l.1,l.2⟩
 clear a3 aa M ad aj aG;go_wp2_with fail;go_ret;exact ⟨rfl,a7.1,a7.2⟩
section
def VisF.mono {F G w w'} (b:VisF F w w') (e:∀a,a < w.heap.size->F a->G a):VisF G w w':=⟨b.os,b.tape,b.output,b.size,λa c f=>b.block a c λd=>f (e a c d)⟩
def VisF.trans' {b d w w1 w'} (g:VisF b w w1) (l:VisF d w1 w') (k:∀a,a < w.heap.size->d a->b a):VisF b w w':=by
 have i:=VisF.trans (F:=λa=>b a∨w.heap.size<=a) (g.mono λa _ c=>.inl c) (l.mono λa _ f=>by
  by_cases e:a < w.heap.size;exact .inl (k a e f)
  .exact .inr oM)
 exact i.mono λa n c=>c.elim id λm=>by omega
structure LF (B:Nat) (w w':World) (own own':Nat->Nat):Prop where
 H:∀b,b < w.heap.size->own' b=own b
 b:VisF (λb=>own b≠0) w w'
 keep:Keep (λb=>B<=b) w w'
def LF.refl (B w own):LF B w w own own:=⟨λ_ _=>rfl,VisF.C (Vis.refl w),ke _ _⟩
def LF.trans {B w w1 w' own e own'} (a:LF B w w1 own e) (d:LF B w1 w' e own'):LF B w w' own own':=by
 have g:=a.keep.size;refine ⟨λb c=>(d.H b oM).trans (a.H b c),a.b.trans' d.b λb c f=>?_,a.keep.trans d.keep⟩;rw [<-a.H b c];exact f
def LF.i {B w w' own} (a:VB B w w'):LF B w w' own own:=⟨λ_ _=>rfl,VisF.C a.1,a.2⟩
structure LiveM (w:World) (B:Nat) (own:Nat->Nat) (gl gk gp rate:Nat) (mv:Int) (R P:Nat) (L T:List Nat) (pr:List (Nat×Nat)):Prop where
 a:Bk w gl 89 #[gk,gp,(rate:Int),(mv:Int)]
 x:own gl=3
 walk:WalkE w B own gk L T
 perm:PermE w (λb=>own b=1) gp R P pr
section
variable {w w' : World} {B : Nat} {own own' : Nat -> Nat} {gl gk gp rate : Nat} {mv : Int} {R P R' P' : Nat} {L T L' T' : List Nat} {pr pr' : List (Nat × Nat)}
def LiveM.q (b:LiveM w B own gl gk gp rate mv R P L T pr):∀a,own a≠0->B<=a/\a < w.heap.size:=b.walk.q
def LiveM.lo (a:LiveM w B own gl gk gp rate mv R P L T pr):B<=gl:=(a.q gl (by rw [a.x];decide)).1
def LiveM.gw (c:LiveM w B own gl gk gp rate mv R P L T pr):∃a b,Bk w gk 140 #[.pointer (some ⟨a,0,none⟩),.pointer (some ⟨b,0,none⟩)]/\WaveAt w B a L:=by
 obtain ⟨a,b,d,_,e,_⟩:=c.walk;exact ⟨a,b,d,e.at⟩
def LiveM.b (a:LiveM w B own gl gk gp rate mv R P L T pr) (b:Vis w w'):LiveM w' B own gl gk gp rate mv R P L T pr:=
 ⟨b.d a.a dC dC,a.x,a.walk.b b,a.perm.b b⟩
def LiveM.I (c:LiveM w B own gl gk gp rate mv R P L T pr) (f:WalkE w' B own' gk L' T') (a:Grew w w' own own'):LiveM w' B own' gl gk gp rate mv R P L' T' pr/\LF B w w' own own':=by
 have e:=c.q;refine ⟨⟨a.keep.d c.a (λd=>by have:=c.x;omega),by rw [a.H _ c.a.lt];exact c.x,f,(c.perm.keep a.keep λb d=>by omega).mono λb _ d=>?_⟩,a.H,VisF.O (a.keep.mono λb _ d=>by omega),a.keep.mono λb _ d=>(e b oM).1⟩;rw [a.H b (e b oM).2];exact d
def LiveM.S (c:LiveM w B own gl gk gp rate mv R P L T pr) (m:PermE w' (Gw (λa=>own a=1) w.heap.size) gp R' P' pr') (e:Keep (λa=>own a=1) w w'):LiveM w' B (eD own w.heap.size w'.heap.size 1) gl gk gp rate mv R' P' L T pr'/\LF B w w' own (eD own w.heap.size w'.heap.size 1):=by
 have g:=c.q;have k:∀a,a < w.heap.size->eD own w.heap.size w'.heap.size 1 a=own a:=λa i=>by unfold eD;rw [zBx i]
 have hB:B<=w.heap.size:=zk c.lo c.a.lt
 have o:=e.size;refine ⟨⟨e.d c.a (λb=>by have:=c.x;omega),by rw [k _ c.a.lt];exact c.x,(c.walk.m e λa b=>⟨by omega,by omega⟩).aq (λa i n=>?_) (λa d=>?_),m.mono λa i b=>?_⟩,k,VisF.O (e.mono λa _ b=>by omega),e.mono λa _ b=>(g a oM).1⟩;by_cases f:a < w.heap.size;exact k a f;have:=(g a oM).2;omega;unfold eD at d;by_cases f:a < w.heap.size;rw [zBx f] at d;have:=g a d;exact ⟨this.1,by omega⟩;rw [zBw f] at d;by_cases l:a < w'.heap.size;exact ⟨by omega,l⟩;rw [zBw l] at d;exact absurd rfl d
 .rcases b with b | b;rw [k a (g a oM).2];exact b
  .unfold eD;rw [zBw oM,zBx i]
def LiveM.ah (c:LiveM w B own gl gk gp rate mv R P L T pr) (f):LiveM (w.setCell ⟨gl,3,none⟩ (.int .i64 f)) B own gl gk gp rate f R P L T pr/\LF B w (w.setCell ⟨gl,3,none⟩ (.int .i64 f)) own own:=by
 have e:Keep (λa=>a=gl) w (w.setCell ⟨gl,3,none⟩ (.int .i64 f)):=ka (F:=λa=>a=gl) (ke _ _) (p:=⟨gl,3,none⟩) (.inl rfl) _;have i:=c.x;refine ⟨⟨c.a.set 3 _,c.x,c.walk.m e λa b=>?_,c.perm.keep e λa b g=>?_⟩,λ_ _=>rfl,VisF.O (e.mono λa _ b=>?_),e.mono λa _ b=>?_⟩;have g:a=gl:=b;subst g;exact ⟨by omega,by omega⟩;have d:a=gl:=g;subst d;omega;have d:a=gl:=b;subst d;show own a≠0;omega;have d:a=gl:=b;subst d;exact c.lo
def LiveM.len (b:LiveM w B own gl gk gp rate mv R P L T pr):LvW w B gl L∨¬T.Perm L:=by
 by_cases a:T.Perm L;exact .inl ⟨gk,_,_,_,b.a,b.walk.at a⟩;exact .inr a
def LiveM.ad (g:LiveM w B own gl gk gp rate mv R P L T pr):PermR w gp R P pr:=by
 obtain ⟨⟨f,n,o,p,m,k,d,l,e,a,b⟩,c,q⟩:=g.perm;rw [b] at c;have i:=zDm.1 c;have r:=iS a.nd a.at_.lt;exact ⟨0,f,n,o,p,m,k,d,l,e,a.at_,i,a.sz,by have:=a.sz;omega,b⟩
def LiveM.g (a:LiveM w B own gl gk gp rate mv R R L T pr) (b:T.Perm L):LiveG w B gl gk gp rate R L pr:=⟨⟨mv,a.a⟩,a.walk.at b,a.ad⟩
end
section
variable {w : World} {B : Nat} {own : Nat -> Nat} {gl gk gp rate : Nat} {mv : Int} {R P : Nat} {L T : List Nat} {pr : List (Nat × Nat)}
def zN {i s:Nat} (a:LiveM w B own gl gk gp rate mv R P L T pr) (e:L[i]?=some s) (d:∀m∈L,m < 257) (k:L.length<=1000) (g:T.length<=1000):
 Calls prog 101 #[gl,(i:Int)] w λc w'=>c=.returned (.int .i64 (uL L T s i:Nat))/\VB B w w':=by
 have b:=sO a.walk.dg e d k g;have n:=a.a.cell 0;obtain ⟨o,f⟩:=eqx (uL L T s i);rw [f] at b⊢;clear a e d f;go_enter func101,ntmps101;go_wp2_with fail;refine b.mono ?_;rintro c w' ⟨rfl,l⟩;clear b;go_wp2_with fail;go_ret;exact ⟨rfl,l⟩
def qT (b:Nat) (w) (gl:Nat):
 Calls prog 90 #[gl,o0,(b:Int)] w λa w'=>a=.returned (.int .i64 (-1))/\w=w':=by
 go_enter func90,ntmps90;go_wp2_with fail;go_ret;exact ⟨rfl,rfl⟩
def tR (b:Nat) {a e:Nat} (c:LiveM w B own gl gk gp rate mv R P L T pr) (q:0 < b) (i:L[a]?=some e) (g:∀o∈L,o < 257) (m:L.length<=1000) (l:T.length<=1000):
 Calls prog 90 #[gl,(b:Int),(a:Int)] w λf w'=>f=.returned (.int .i64 (uL L T e a:Nat))/\VB B w w':=by
 have d:=sO c.walk.dg i g m l;have p:=c.a.cell 0;have r:((b:Int)==0)=false:=by rw [zCb];omega
 obtain ⟨s,k⟩:=eqx (uL L T e a);rw [k] at d⊢;clear c i g k;go_enter func90,ntmps90;go_wp2_with fail;refine d.mono ?_;rintro f w' ⟨rfl,n⟩;clear d;go_wp2_with fail;go_ret;exact ⟨rfl,n⟩
end
def inI (a b:Int):Int:=if a>=b then a+1 else a
def aC4 (a b:Int):Int:=if a > b then a - 1 else a
def zH (b a:Nat):inI (b:Int) (a:Int)=((inR b a:Nat):Int):=by
 unfold inI inR;split <;> split <;> omega
def mX (b a:Nat):aC4 (b:Int) (a:Int)=((bN b a:Nat):Int):=by
 unfold aC4 bN;split <;> split <;> omega
def aH0 (a:Nat):inI (-1) (a:Int)=-1:=by unfold inI;rw [zBw oM]
def aEK (a:Nat):aC4 (-1) (a:Int)=-1:=by unfold aC4;rw [zBw oM]
def zO {r} (a w) (e:-1000000<=r/\r<=1000000):
 Calls prog 104 #[(r:Int),(a:Int)] w λc w'=>c=.returned (.int .i64 (inI r a))/\w=w':=by
 unfold inI;by_cases b:r>=a
 .rw [zBx b];have d:wrap64 (r+1)=r+1:=dU oM oM;go_enter func104,ntmps104;go_wp2_with fail;go_ret;exact ⟨rfl,rfl⟩
 .rw [zBw b];go_enter func104,ntmps104;go_wp2_with fail;go_ret;exact ⟨rfl,rfl⟩
def nO (a b w) (f:-1000000<=a/\a<=1000000):
 Calls prog 98 #[(a:Int),(b:Int)] w λd w'=>d=.returned (.int .i64 (aC4 a b))/\w=w':=by
 unfold aC4;by_cases c:a > b
 .rw [zBx c];have e:IntKind.i64.wrap (a - 1)=a - 1:=zu;go_enter func98,ntmps98;go_wp2_with fail;go_ret;exact ⟨rfl,rfl⟩
 .rw [zBw c];go_enter func98,ntmps98;go_wp2_with fail;go_ret;exact ⟨rfl,rfl⟩
def aHD (a d b:Nat) (w) (r:0 < a∨¬d < b) (q:a<=1000000):
 Calls prog 158 #[(a:Int),(d:Int),(b:Int)] w λl w'=>l=.returned (.int .i64 (aL3 a d b:Nat))/\w=w':=by
 unfold aL3;by_cases k:d < b
 .obtain ⟨c,p⟩:∃c,a=c+1:=⟨a - 1,by omega⟩;subst p;have o:(d:Int) < b:=oM;have m:IntKind.i64.wrap ((c+1:Nat) - 1)=(c:Int):=zu;obtain ⟨a,i⟩:=eqx (c+1);rw [i] at m⊢;have e:(if d < b then a - 1 else a)=c:=(by rw [zBx k];omega);simp only [e];by_cases f:b<=c
  .have g:(c:Int)>=b:=oM;have n:wrap64 (c+1)=((c+1:Nat):Int):=(by rw [dU oM oM];rfl);rw [zBx f];clear e i;go_enter func158,ntmps158;go_wp2_with fail;go_ret;exact ⟨rfl,rfl⟩
  .have g:¬(c:Int)>=b:=oM;rw [zBw f];clear e i;go_enter func158,ntmps158;go_wp2_with fail;go_ret;exact ⟨rfl,rfl⟩
 .have o:¬(d:Int) < b:=oM;have e:(if d < b then a - 1 else a)=a:=(by rw [zBw k]);simp only [e];by_cases f:b<=a
  .have g:(a:Int)>=b:=oM;have n:wrap64 (a+1)=((a+1:Nat):Int):=(by rw [dU oM oM];rfl);rw [zBx f];clear e;go_enter func158,ntmps158;go_wp2_with fail;go_ret;exact ⟨rfl,rfl⟩
  .have g:¬(a:Int)>=b:=oM;rw [zBw f];clear e;go_enter func158,ntmps158;go_wp2_with fail;go_ret;exact ⟨rfl,rfl⟩
def aEa {gl d e f mv a b w} (c:Bk w gl 89 #[d,e,f,(mv:Int)]) (l:0<=a) (m:a<=b):
 Calls prog 89 #[gl,(a:Int),(b:Int)] w λg w'=>g=.returned (.int .i64 0)/\w'=w.setCell ⟨gl,3,none⟩ (.int .i64 0):=by
 have i:w.cell? ⟨gl,3,none⟩=some (.int .i64 mv):=(c.cell 3).trans rfl;have k:=c.frozen 3;have n:=zn (a < 0);have o:¬a > b:=oM;have p:¬b < a:=oM;clear c;go_enter func89,ntmps89;go_wp2_with fail;go_ret;exact ⟨rfl,rfl⟩
def aOf (R:List Nat) (a:Nat):Int:=if a=0 then -1 else ((ro R (a - 1):Nat):Int)
def aFd (R j):aOf R (j+1)=((ro R j:Nat):Int):=by unfold aOf;rw [zBw oM,zBb]
structure ReoI (w0 wr:World) (B:Nat) (mL own:Nat->Nat) (gl gk gp rate:Nat) (mv:Int) (S T:List Nat) (N i:Nat) (R:List Nat) (pr0 pr:List (Nat×Nat)):Prop where
 P:Near S R N i
 live:LiveM wr B own gl gk gp rate mv (N+1) (N+1) (aH S R) T pr
 ag:T.Perm (aH S R)
 right:∀x∈pr,R[x.1]?=some x.2
 ci:∀p,(∃x∈pr,x.2=p)↔∃x∈pr0,x.2=p
 ne:0 < i->pr≠ []
 lf:LF B w0 wr mL own
 bA:0<=mv/\mv+(i:Int)<=(N:Int)+1
def mZ {L T} (c:T.Perm L) (b a):uL L T b a=cR L b a:=by
 unfold uL cR;rw [c.countP_eq]
section
variable {w0 wr : World} {B : Nat} {mL own : Nat -> Nat} {gl gk gp rate : Nat} {mv : Int} {S T : List Nat} {N j : Nat} {R : List Nat} {pr0 pr : List (Nat × Nat)}
def aKG (b:Near S R N j) {a} (c:a<=N):(aH S R)[ro R a]?=some (bS S a):=by
 unfold aH;rw [zAf,cE (b.mem.2 c)];rfl
def aKF (b:Near S R N (j+1)) (d:j < N) (a:ro R j=tgt S R j):Near S R N 0:=by
 refine aHS b d rfl (zFU R) a (λg e f=>?_) (.inr ⟨a,rfl⟩);have i:ro R g≠ro R j:=λc=>f (fL e (b.mem.2 oM) c);rw [<-a];unfold inR bN;split <;> split <;> omega
def mV (a:Near S R N (j+1)) (c:j < N):Near S (aT (aK R (ro R j)) (tgt S R j) j) N j/\ro (aT (aK R (ro R j)) (tgt S R j) j) j=tgt S R j/\(∀b,b<=N->b≠j->ro (aT (aK R (ro R j)) (tgt S R j) j) b=inR (bN (ro R b) (ro R j)) (tgt S R j))/\(aT (aK R (ro R j)) (tgt S R j) j).Perm R:=by
 have k:=aJ6 a c;obtain ⟨d,e,f⟩:=zD a.nodup (t:=tgt S R j) (cE (a.mem.2 (show j<=N by omega))) (by rw [a.len];exact k);exact ⟨aHS a c rfl d e f (.inl rfl),e,λb g i=>f b (a.mem.2 g) i,d⟩
def aIN (d:Near S R N (j+1)) (k:j < N) (l:∀b∈pr,R[b.1]?=some b.2):∀b∈pr.map (λb=>(mvR (ro R j) (tgt S R j) b.1,b.2)),(aT (aK R (ro R j)) (tgt S R j) j)[b.1]?=some b.2:=λb m=>by
 obtain ⟨a,n,rfl⟩:=zAy.1 m;have i:=l a n;have f:ro R a.2=a.1:=gR d.nodup i;have g:a.2<=N:=d.mem.1 (zAd i);obtain ⟨p,q,r,s⟩:=mV d k;show (aT (aK R (ro R j)) (tgt S R j) j)[mvR (ro R j) (tgt S R j) a.1]?=some a.2;have o:mvR (ro R j) (tgt S R j) a.1=ro (aT (aK R (ro R j)) (tgt S R j) j) a.2:=by
  unfold mvR;by_cases e:a.1=ro R j
  .have c:a.2=j:=fL (d.mem.2 g) (d.mem.2 oM) (by rw [f,e]);rw [zBx e,c,q]
  .have c:a.2≠j:=λc=>e (by rw [<-f,c]);rw [zBw e,r _ g c,f]
 rw [o];exact cE (p.mem.2 g)
def aMY {mv:Int} {j N:Nat} (a:0<=mv/\mv+((j+1:Nat):Int)<=N+1) (b:N<=895):0<=wrap64 (mv+1)/\wrap64 (mv+1)+(j:Int)<=N+1:=by
 unfold wrap64;omega
def aAd {w' own' pr'} (a:ReoI w0 wr B mL own gl gk gp rate mv S T N (j+1) R pr0 pr) (f:j < N) (k:LiveM w' B own' gl gk gp rate (wrap64 (mv+1)) (N+1) (N+1) (aT (aK (aH S R) (ro R j)) (tgt S R j) (bS S j)) T pr') (d:pr'.Perm (pr.map λb=>(mvR (ro R j) (tgt S R j) b.1,b.2))) (i:LF B wr w' own own') (g:N<=895):
 ReoI w0 w' B mL own' gl gk gp rate (wrap64 (mv+1)) S T N j (aT (aK R (ro R j)) (tgt S R j) j) pr0 pr':=by
 obtain ⟨n,s,t,o⟩:=mV a.P f;have l:aH S (aT (aK R (ro R j)) (tgt S R j) j)=aT (aK (aH S R) (ro R j)) (tgt S R j) (bS S j):=aGL (cE (a.P.mem.2 oM));refine ⟨n,by rw [l];exact k,a.ag.trans ?_,λb c=>aIN a.P f a.right b (d.subset c),λp=>?_,λr e=>?_,a.lf.trans i,aMY a.bA g⟩;unfold aH;exact (o.map _).symm;rw [<-a.ci p];constructor;rintro ⟨b,c,rfl⟩;obtain ⟨q,m,e⟩:=zAy.1 (d.subset c);exact ⟨q,m,by rw [<-e]⟩;rintro ⟨b,c,rfl⟩;exact ⟨_,d.symm.subset (zAy.2 ⟨b,c,rfl⟩),rfl⟩;subst e;have:=d.length_eq;simp at this;exact a.ne oM (zBk this.symm)
end
def aMX {S R N a} (b:Near S R N (a+2)) (c:a+1 < N):((inR (bN (ro R a) (ro R (a+1))) (tgt S R (a+1)):Nat):Int)=aOf (aT (aK R (ro R (a+1))) (tgt S R (a+1)) (a+1)) (a+1):=by
 rw [aFd,(mV b c).2.2.1 a oM oM]
def Grew.after {w c f own e} (k:∀a,own a≠0->a < w.heap.size) (d:Keep (λa=>own a=2∨16<=own a) w c) (b:Grew c f own e):Grew w f own e:=by
 have l:=d.size;refine ⟨λa p=>b.H a oM,λa o i=>?_,d.trans b.keep⟩;by_cases g:a < c.heap.size;have m:=b.H a g;have n:=k a oM;omega;exact b.new a oM i
def vH (w0:World) (B:Nat) (mL:Nat->Nat) (gl gk gp rate:Nat) (S T:List Nat) (N:Nat) (pr0:List (Nat×Nat)) (a:Ending) (w':World):Prop:=
 a=.returned (.tuple #[])/\∃own mv R pr,ReoI w0 w' B mL own gl gk gp rate mv S T N 0 R pr0 pr
def qP {w0 w B mL cc gl gk gp rate cb S T N aE bi pr0 cd} (ab:ReoI w0 w B mL cc gl gk gp rate cb S T N aE bi pr0 cd) (cp:aE<=N) (br:N<=895) (b:∀az∈S,az < 257):
 Calls prog 97 #[gl,(aE:Int),.int .i64 (ro bi aE:Nat),(aOf bi aE:Int)] w (vH w0 B mL gl gk gp rate S T N pr0):=by
 have bU:=ab;have ce:=b;clear ab b;unfold vH;go_enter func97,ntmps97;go_wp2_with fail;go_loopw [1,2,3] (λaz cz cA wr=>∃(H:Nat) (own:Nat->Nat) (mv:Int) (R:List Nat) (pr:List (Nat×Nat)),H<=N/\az=.int .i64 H/\cz=.int .i64 (ro R H:Nat)/\cA=.int .i64 (aOf R H)/\ReoI w0 wr B mL own gl gk gp rate mv S T N H R pr0 pr) (λaz _ _ _=>(intOf az).toNat)
 case atStart=>exact ⟨aE,cc,cb,bi,cd,cp,rfl,rfl,rfl,bU⟩
 case round=>
  clear bU;obtain ⟨H,own,mv,R,pr,cD,rfl,rfl,rfl,x⟩:=hrel;rcases H with _ | j
  .have cj:=x;clear x;go_wp2_with fail;go_end0;exact ⟨rfl,own,mv,R,pr,cj⟩
  .have a5:j < N:=oM;have X:=x.P;obtain ⟨L,ah⟩:=eqx (aH S R);have bq:L.length=N+1:=(by rw [<-ah,bY,X.len]);have G:∀az∈L,az < 257:=(by rw [<-ah];exact dR ce);have c0:T.length=N+1:=(by rw [x.ag.length_eq,ah,bq]);have bZ:S.length=N+1:=X.ba.len;have aD:=aKG X (show j+1<=N by omega);have U:=aKG X (show j<=N by omega);rw [bL oM] at aD;rw [ah] at aD U;have ht:uL L T (S.getD j 0) (ro R (j+1))=tgt S R j:=(by rw [<-ah,mZ x.ag];rfl);have ca:=aJ6 X a5;have cv:=λt=>aKF X a5 t;have bA:=x.live;rw [ah] at bA;rw [aFd];have bs:ro R j < N+1:=(by have:=zDk.2 (X.mem.2 (show j<=N by omega));rw [X.len] at this;exact this);have bv:ro R (j+1) < N+1:=(by have:=zDk.2 (X.mem.2 (show j+1<=N by omega));rw [X.len] at this;exact this);obtain ⟨q,bE⟩:=eqx (tgt S R j);obtain ⟨c,bj⟩:=eqx (ro R j);obtain ⟨aL,bl⟩:=eqx (ro R (j+1));obtain ⟨aJ,bu⟩:=eqx (S.getD j 0);obtain ⟨g,bw⟩:=eqx (bS S j);rw [bE] at ht ca;rw [bj] at U bs;rw [bl] at ht aD bv;rw [bu] at ht aD;rw [bw] at U;rw [bj,bl];have bF:=zN (i:=aL) (s:=aJ) bA aD G oM oM;rw [ht] at bF;have cl:IntKind.i64.wrap ((j+1:Nat) - 1)=(j:Int):=zu;obtain ⟨aF,an⟩:=eqx (j+1);rw [an] at cl⊢;have cF:=zy ((aF:Int) > 0);have cE:0 < aF:=oM;obtain ⟨aA,u,E,I,ci,ch,bh,cg,cf⟩:=hqq9 ah bq bE bj bl bu bw c0 bZ;have cH:q<=N:=oM;clear ah bq bE bj bl bu bw c0 bZ X ht ca;go_wp2_with fail;refine bF.mono ?_;clear bF;rintro t w1 ⟨rfl,bH⟩;have b5:=bA.b bH.1;have bx:=LF.i (own:=own) bH;clear bH;by_cases c2:c=q
   .have cn:((c:Int)==q)=true:=(by rw [c2];simp);go_wp2_with fail;refine bodyPost_ret (results_none rfl _ _ _) rfl ?_;have aC:=x;exact ⟨rfl,own,mv,R,pr,cv (by rw [I.out,E.out];exact c2),by rw [aA.out];exact b5,aC.ag,aC.right,aC.ci,λa3=>absurd a3 (zCl 0),aC.lf.trans bx,⟨aC.bA.1,by have:=aC.bA.2;omega⟩⟩
   .have cn:((c:Int)==q)=false:=(by rw [zCb];omega);obtain ⟨bp,cB,b3,be⟩:=b5.gw;have bP:=b5.a.cell 0;have bQ:=b3.cell 0;have c7:=eR (B:=B) (gv:=bp) (L:=L) (w:=w1) aL aJ be (by rw [u.out];exact bv) (by have a3:=aD;rw [zAa (by rw [u.out];exact bv)] at a3;injection a3) G (by rw [u.out];omega);clear b3 be;go_wp2_with fail;refine c7.mono ?_;clear c7;rintro t e ⟨rfl,bI⟩;have bm:=b5.b bI.1;have c4:=bx.trans (LF.i (own:=own) bI);clear bI bP bQ;obtain ⟨cm,cC,b3,be⟩:=bm.gw;have bP:=bm.a.cell 0;have bQ:=b3.cell 0;have c8:=eR (B:=B) (gv:=cm) (L:=L) (w:=e) c g be (by rw [u.out];exact bs) (by have a3:=U;rw [zAa (by rw [u.out];exact bs)] at a3;injection a3) G (by rw [u.out];omega);clear b3 be b5 bx;go_wp2_with fail;refine c8.mono ?_;clear c8;rintro t a1 ⟨rfl,bK⟩;have a6:=bm.b bK.1;have c5:=c4.trans (LF.i (own:=own) bK);clear bK bP bQ bm c4;rcases zBa j with bz | bz
    .have cq:decide ((aF:Int) > 1)=false:=zBy (zj an);have cr:¬(aF:Int) > 1:=(zj an);have aw:aOf (aT (aK R (ro R j)) (tgt S R j) j) j=-1:=(by rw [bz];rfl);have ck:=lhd aw;clear aw bz;have M:a1.cell? gl=some (.pointer (some gk)):=(a6.a.cell 0).trans rfl;have V:=a6.a.lt;have W:¬(own gl=2∨16<=own gl):=(zj a6.x);have ba:∀a,a1.heap.size<=a->own a≠1:=λa aj t=>by have:=(a6.q a oM).2;omega
     go_wp2_with fail;refine wp_region_any kR<|cQ (pre:=(λe=>WalkE e B own gk L T)) 11 [60,61,62,63,64,65,66,67,68,69,70] (λa=>own a=2∨16<=own a) 10 [10] (λa0 e=>a0=.int .i64 g/\∃d,WalkE e B d gk (aK L c) T/\Grew a1 e own d) [is gl,is gl,is gl,is gk,is (q:Int),is gl,is gl,is gl,is gk,is (c:Int),cO] _ rfl dC kR kR kR ((a6.walk.b (kb (km bR 1)))) (λe a1 ab _ b0=>ab.b (kb b0)) (λ_ _ _ ⟨aR,d,aS,O⟩ Y=>⟨aR,d,aS.b (kb Y),O.H,O.new,O.keep.trans (kF Y)⟩) tA1 ?_ ?_
     .refine bB<|pH3 0 (.pointer (some gl))<|pV3 0 60<|pV3 1 61<|pL3 2 62 (λm b=>have b:Keep (λa=>own a=2∨16<=own a) a1 m:=kD b;((b.cell (p:=gl) V W).trans M:m.cell? gl=some (.pointer (some gk)))) ?_;refine pH3 8 (.int .i64 q)<|pH3 0 (.pointer (some gl))<|pV3 5 65<|pV3 6 66<|pL3 7 67 (λm b=>have b:Keep (λa=>own a=2∨16<=own a) a1 m:=kD b;((b.cell (p:=gl) V W).trans M:m.cell? gl=some (.pointer (some gk)))) ?_;refine pH3 3 (.int .i64 c)<|sC3 (λ_ m b aV _ _ _ o _ _ _ Q=>?_) ?_
      .replace b:Keep (λa=>own a=2∨16<=own a) a1 m:=kD b;have bc:=aV rfl;have bV:_=_:=o 8 68 kR rfl;have bW:_=_:=o 9 69 kR rfl;go_simp;refine (iM (B:=B) (gk:=gk) (own:=own) (L:=L) (T:=T) (k:=c) (s:=g) (w:=m) bc U G (by rw [u.out];omega)).mono ?_;rintro t D ⟨rfl,d,aU,ag⟩;exact Q _ _ (aW ag.keep) ⟨rfl,d,aU,Grew.after (λa aj=>(a6.q a aj).2) b ag⟩
      exact aB
     .intro K C n b o;replace b:Keep (λa=>own a=2∨16<=own a) a1 C:=kD b;have aM:K (.tmp 63)=.pointer (some gk):=o 3 63 dC rfl;have aN:K (.tmp 64)=.int .i64 q:=o 4 64 dC rfl;have bg:(λa0 e=>a0=.int .i64 g/\∃d,WalkE e B d gk (aK L c) T/\Grew a1 e own d) (K (.tmp 70)) C:=o 10 70 dC rfl;simp only [zqq];rw [aM];rw [aN];clear o;obtain ⟨bX,d,ac,ae⟩:=bg;clear M V W ba b;change wpAny prog Region.Mode.any _ _ (1+n) (bT 11 12) _ C;rw [zCt 1 n];refine aY (f:=n) (i:=11) kR ?_;refine bJ rfl rfl ?_;generalize Q:wpAny prog _ _ _ n _=K5;go_simp;have aZ:=cJ (l:=L) (show c < L.length by rw [u.out];omega);refine (iL (B:=B) (gk:=gk) (own:=d) (L:=(aK L c)) (T:=T) (s:=g) (w:=C) q ac (G g (zAd U)) (zj u.out) (rS G) (zj u.out)).mono ?_;rintro t a2 ⟨rfl,au,ad,af⟩;subst Q;refine bG kR ?_;obtain ⟨y,ak⟩:=a6.I ad (ae.trans af);have ar:=iB (F:=(λa=>au a=1)) (gp:=gp) (R:=(N+1)) (P:=(N+1)) (z1:=q) (pr:=pr) (w:=a2) c y.perm oM oM oM oM (x.ne oM);have aP:a2.cell? ⟨gl,1,none⟩=some (.pointer (some gp)):=(y.a.cell 1).trans rfl;have b1:=y.a.lt;have a9:=(c5.trans ak);clear ak ad af ae ac aZ;go_wp2_with fail;refine ar.mono ?_;clear ar;rintro t D ⟨rfl,⟨pr',bb,ai⟩,ao⟩;obtain ⟨v,al⟩:=y.S (ai.mono λa _ n=>.inl n) ao;have J:=(a9.trans al);clear al ai ao aP b1 y a9;obtain ⟨av,aq⟩:=eqx (eD au a2.heap.size D.heap.size 1);rw [aq] at v J;have aQ:D.cell? ⟨gl,3,none⟩=some (.int .i64 mv):=(v.a.cell 3).trans rfl;have aO:=v.a.frozen 3;have b2:=v.a.lt;go_wp2_with fail;obtain ⟨ap,am⟩:=v.ah (wrap64 (mv+1));have aa:=(J.trans am);clear am aQ aO b2 v J aq;generalize D.setCell ⟨gl,3,none⟩ (.int .i64 (wrap64 (mv+1)))=w9 at ap aa⊢;go_wp2_with fail;go_roundw
      case rel=>have b6:LiveM w9 B av gl gk gp rate (wrap64 (mv+1)) (N+1) (N+1) (aT (aK (aH S R) (ro R j)) (tgt S R j) (bS S j)) T pr':=(by rw [aA.out,I.out,E.out,bh.out];exact ap);have bd:=aAd x a5 b6 (by rw [I.out,E.out];exact bb) aa br;have b8:=(mV x.P a5).2.1;exact ⟨j,av,wrap64 (mv+1),_,pr',by omega,rfl,by rw [b8,E.out],by rw [ck.out],bd⟩
      case measure=>simp [intOf];have:=an;omega
    .obtain ⟨a8,b7⟩:∃a8,j=a8+1:=⟨j - 1,by omega⟩;have cq:decide ((aF:Int) > 1)=true:=zBz (zj an);have cr:(aF:Int) > 1:=(zj an);have b9:Near S R N (a8+2):=(by have:=x.P;rwa [b7] at this);obtain ⟨aG,bo⟩:=aK7 b9 oM;have aw:((inR (bN (ro R a8) (ro R j)) (tgt S R j):Nat):Int)=aOf (aT (aK R (ro R j)) (tgt S R j) j) j:=(by subst b7;exact aMX b9 a5);have c3:S.getD a8 0=g:=(by have:=bh.out;rw [b7,bL (zj cf.out)] at this;exact this);rw [<-b7] at aG bo;rw [show a8+2=j+1 by omega,c3,ch.out,I.out,ci.out,aA.out] at aG bo;rw [I.out,E.out] at aw;have bn:=zN (i:=c) (s:=g) a6 U G (by rw [u.out];omega) (by rw [cg.out];omega);have c1:uL L T g c=cR L g c:=mZ (by rw [<-aA.out];exact x.ag) g c;rw [c1] at bn;have cs:cR L g c<=N+1:=(by have:=zG L g c;rw [u.out] at this;exact this);obtain ⟨bO,c9⟩:=eqx (cR L g c);rw [c9] at aG bo bn cs;obtain ⟨Z,bD⟩:=eqx (ro R a8);rw [bD] at aG aw;have cG:Z<=N:=(by have ct:ro R a8 < R.length:=zDk.2 (b9.mem.2 (show a8<=N by omega));rw [b9.len,bD] at ct;omega);clear b9 c3 c1 c9 bD b7;go_wp2_with fail;refine bn.mono ?_;clear bn;rintro t z ⟨rfl,bM⟩;have A:=a6.b bM.1;have c6:=c5.trans (LF.i (own:=own) bM);clear bM;by_cases bk:aJ=g
     .have co:((aJ:Int)==g)=true:=(by rw [bk];simp);have aX:aL3 bO aL c=Z:=by have:=aG;rwa [zBx bk] at this
      have bt:=aHD bO aL c z (by
       by_cases a3:aL < c;exact .inl (bo bk a3)
       .exact .inr a3) oM
      rw [aX] at bt;clear aX;go_wp2_with fail;refine bt.mono ?_;clear bt;rintro t m ⟨rfl,rfl⟩;have M:z.cell? gl=some (.pointer (some gk)):=(A.a.cell 0).trans rfl;have V:=A.a.lt;have W:¬(own gl=2∨16<=own gl):=(zj A.x);have ba:∀a,z.heap.size<=a->own a≠1:=λa aj t=>by have:=(A.q a oM).2;omega
      go_wp2_with fail;refine wp_region_any kR<|cQ (pre:=(λe=>WalkE e B own gk L T)) 11 [60,61,62,63,64,65,66,67,68,69,70] (λa=>own a=2∨16<=own a) 10 [10] (λa0 e=>a0=.int .i64 g/\∃d,WalkE e B d gk (aK L c) T/\Grew z e own d) [is gl,is gl,is gl,is gk,is (q:Int),is gl,is gl,is gl,is gk,is (c:Int),cO] _ rfl dC kR kR kR ((A.walk.b (kb (km bR 1)))) (λe a1 ab _ b0=>ab.b (kb b0)) (λ_ _ _ ⟨aR,d,aS,O⟩ Y=>⟨aR,d,aS.b (kb Y),O.H,O.new,O.keep.trans (kF Y)⟩) tA1 ?_ ?_
      .refine bB<|pH3 0 (.pointer (some gl))<|pV3 0 60<|pV3 1 61<|pL3 2 62 (λm b=>have b:Keep (λa=>own a=2∨16<=own a) z m:=kD b;((b.cell (p:=gl) V W).trans M:m.cell? gl=some (.pointer (some gk)))) ?_;refine pH3 8 (.int .i64 q)<|pH3 0 (.pointer (some gl))<|pV3 5 65<|pV3 6 66<|pL3 7 67 (λm b=>have b:Keep (λa=>own a=2∨16<=own a) z m:=kD b;((b.cell (p:=gl) V W).trans M:m.cell? gl=some (.pointer (some gk)))) ?_;refine pH3 3 (.int .i64 c)<|sC3 (λ_ m b aV _ _ _ o _ _ _ Q=>?_) ?_
       .replace b:Keep (λa=>own a=2∨16<=own a) z m:=kD b;have bc:=aV rfl;have bV:_=_:=o 8 68 kR rfl;have bW:_=_:=o 9 69 kR rfl;go_simp;refine (iM (B:=B) (gk:=gk) (own:=own) (L:=L) (T:=T) (k:=c) (s:=g) (w:=m) bc U G (by rw [u.out];omega)).mono ?_;rintro t D ⟨rfl,d,aU,ag⟩;exact Q _ _ (aW ag.keep) ⟨rfl,d,aU,Grew.after (λa aj=>(A.q a aj).2) b ag⟩
       exact aB
      .intro K C n b o;replace b:Keep (λa=>own a=2∨16<=own a) z C:=kD b;have aM:K (.tmp 63)=.pointer (some gk):=o 3 63 dC rfl;have aN:K (.tmp 64)=.int .i64 q:=o 4 64 dC rfl;have bg:(λa0 e=>a0=.int .i64 g/\∃d,WalkE e B d gk (aK L c) T/\Grew z e own d) (K (.tmp 70)) C:=o 10 70 dC rfl;simp only [zqq];rw [aM];rw [aN];clear o;obtain ⟨bX,d,ac,ae⟩:=bg;clear M V W ba b;change wpAny prog Region.Mode.any _ _ (1+n) (bT 11 12) _ C;rw [zCt 1 n];refine aY (f:=n) (i:=11) kR ?_;refine bJ rfl rfl ?_;generalize Q:wpAny prog _ _ _ n _=K5;go_simp;have aZ:=cJ (l:=L) (show c < L.length by rw [u.out];omega);refine (iL (B:=B) (gk:=gk) (own:=d) (L:=(aK L c)) (T:=T) (s:=g) (w:=C) q ac (G g (zAd U)) (zj u.out) (rS G) (zj u.out)).mono ?_;rintro t a2 ⟨rfl,au,ad,af⟩;subst Q;refine bG kR ?_;obtain ⟨y,ak⟩:=A.I ad (ae.trans af);have ar:=iB (F:=(λa=>au a=1)) (gp:=gp) (R:=(N+1)) (P:=(N+1)) (z1:=q) (pr:=pr) (w:=a2) c y.perm oM oM oM oM (x.ne oM);have aP:a2.cell? ⟨gl,1,none⟩=some (.pointer (some gp)):=(y.a.cell 1).trans rfl;have b1:=y.a.lt;have a9:=(c6.trans ak);clear ak ad af ae ac aZ;go_wp2_with fail;refine ar.mono ?_;clear ar;rintro t D ⟨rfl,⟨pr',bb,ai⟩,ao⟩;obtain ⟨v,al⟩:=y.S (ai.mono λa _ n=>.inl n) ao;have J:=(a9.trans al);clear al ai ao aP b1 y a9;obtain ⟨av,aq⟩:=eqx (eD au a2.heap.size D.heap.size 1);rw [aq] at v J;have aQ:D.cell? ⟨gl,3,none⟩=some (.int .i64 mv):=(v.a.cell 3).trans rfl;have aO:=v.a.frozen 3;have b2:=v.a.lt;go_wp2_with fail;obtain ⟨ap,am⟩:=v.ah (wrap64 (mv+1));have aa:=(J.trans am);clear am aQ aO b2 v J aq;generalize D.setCell ⟨gl,3,none⟩ (.int .i64 (wrap64 (mv+1)))=w9 at ap aa⊢;have a7:=nO (Z:Int) (c:Int) w9 oM;rw [mX] at a7;have bC:bN Z c<=896:=(by unfold bN;split <;> omega);obtain ⟨bf,ay⟩:=eqx (bN Z c);rw [ay] at a7 bC;have a4:=zO (r:=(bf:Int)) (q:Int) w9 oM;rw [zH] at a4;have ax:=aw;rw [ay] at ax;have cu:=zy ((Z:Int)>=0);have aI:=lhd ax;obtain ⟨cw,b4⟩:=eqx (inR bf q);rw [b4] at a4 aI;clear ax ay b4;go_wp2_with fail;refine a7.mono ?_;rintro t cx ⟨rfl,rfl⟩;go_wp2_with fail;refine a4.mono ?_;rintro t cy ⟨rfl,rfl⟩;clear a7 a4;go_wp2_with fail;go_roundw
       case rel=>have b6:LiveM w9 B av gl gk gp rate (wrap64 (mv+1)) (N+1) (N+1) (aT (aK (aH S R) (ro R j)) (tgt S R j) (bS S j)) T pr':=(by rw [aA.out,I.out,E.out,bh.out];exact ap);have bd:=aAd x a5 b6 (by rw [I.out,E.out];exact bb) aa br;have b8:=(mV x.P a5).2.1;exact ⟨j,av,wrap64 (mv+1),_,pr',by omega,rfl,by rw [b8,E.out],by rw [aI.out,I.out,E.out],bd⟩
       case measure=>simp [intOf];have:=an;omega
     .have co:((aJ:Int)==g)=false:=(by rw [zCb];omega);have aX:bO=Z:=(by have:=aG;rwa [zBw bk] at this);rw [aX];clear aX;have M:z.cell? gl=some (.pointer (some gk)):=(A.a.cell 0).trans rfl;have V:=A.a.lt;have W:¬(own gl=2∨16<=own gl):=(zj A.x);have ba:∀a,z.heap.size<=a->own a≠1:=λa aj t=>by have:=(A.q a oM).2;omega
      go_wp2_with fail;refine wp_region_any kR<|cQ (pre:=(λe=>WalkE e B own gk L T)) 11 [60,61,62,63,64,65,66,67,68,69,70] (λa=>own a=2∨16<=own a) 10 [10] (λa0 e=>a0=.int .i64 g/\∃d,WalkE e B d gk (aK L c) T/\Grew z e own d) [is gl,is gl,is gl,is gk,is (q:Int),is gl,is gl,is gl,is gk,is (c:Int),cO] _ rfl dC kR kR kR ((A.walk.b (kb (km bR 1)))) (λe a1 ab _ b0=>ab.b (kb b0)) (λ_ _ _ ⟨aR,d,aS,O⟩ Y=>⟨aR,d,aS.b (kb Y),O.H,O.new,O.keep.trans (kF Y)⟩) tA1 ?_ ?_
      .refine bB<|pH3 0 (.pointer (some gl))<|pV3 0 60<|pV3 1 61<|pL3 2 62 (λm b=>have b:Keep (λa=>own a=2∨16<=own a) z m:=kD b;((b.cell (p:=gl) V W).trans M:m.cell? gl=some (.pointer (some gk)))) ?_;refine pH3 8 (.int .i64 q)<|pH3 0 (.pointer (some gl))<|pV3 5 65<|pV3 6 66<|pL3 7 67 (λm b=>have b:Keep (λa=>own a=2∨16<=own a) z m:=kD b;((b.cell (p:=gl) V W).trans M:m.cell? gl=some (.pointer (some gk)))) ?_;refine pH3 3 (.int .i64 c)<|sC3 (λ_ m b aV _ _ _ o _ _ _ Q=>?_) ?_
       .replace b:Keep (λa=>own a=2∨16<=own a) z m:=kD b;have bc:=aV rfl;have bV:_=_:=o 8 68 kR rfl;have bW:_=_:=o 9 69 kR rfl;go_simp;refine (iM (B:=B) (gk:=gk) (own:=own) (L:=L) (T:=T) (k:=c) (s:=g) (w:=m) bc U G (by rw [u.out];omega)).mono ?_;rintro t D ⟨rfl,d,aU,ag⟩;exact Q _ _ (aW ag.keep) ⟨rfl,d,aU,Grew.after (λa aj=>(A.q a aj).2) b ag⟩
       exact aB
      .intro K C n b o;replace b:Keep (λa=>own a=2∨16<=own a) z C:=kD b;have aM:K (.tmp 63)=.pointer (some gk):=o 3 63 dC rfl;have aN:K (.tmp 64)=.int .i64 q:=o 4 64 dC rfl;have bg:(λa0 e=>a0=.int .i64 g/\∃d,WalkE e B d gk (aK L c) T/\Grew z e own d) (K (.tmp 70)) C:=o 10 70 dC rfl;simp only [zqq];rw [aM];rw [aN];clear o;obtain ⟨bX,d,ac,ae⟩:=bg;clear M V W ba b;change wpAny prog Region.Mode.any _ _ (1+n) (bT 11 12) _ C;rw [zCt 1 n];refine aY (f:=n) (i:=11) kR ?_;refine bJ rfl rfl ?_;generalize Q:wpAny prog _ _ _ n _=K5;go_simp;have aZ:=cJ (l:=L) (show c < L.length by rw [u.out];omega);refine (iL (B:=B) (gk:=gk) (own:=d) (L:=(aK L c)) (T:=T) (s:=g) (w:=C) q ac (G g (zAd U)) (zj u.out) (rS G) (zj u.out)).mono ?_;rintro t a2 ⟨rfl,au,ad,af⟩;subst Q;refine bG kR ?_;obtain ⟨y,ak⟩:=A.I ad (ae.trans af);have ar:=iB (F:=(λa=>au a=1)) (gp:=gp) (R:=(N+1)) (P:=(N+1)) (z1:=q) (pr:=pr) (w:=a2) c y.perm oM oM oM oM (x.ne oM);have aP:a2.cell? ⟨gl,1,none⟩=some (.pointer (some gp)):=(y.a.cell 1).trans rfl;have b1:=y.a.lt;have a9:=(c6.trans ak);clear ak ad af ae ac aZ;go_wp2_with fail;refine ar.mono ?_;clear ar;rintro t D ⟨rfl,⟨pr',bb,ai⟩,ao⟩;obtain ⟨v,al⟩:=y.S (ai.mono λa _ n=>.inl n) ao;have J:=(a9.trans al);clear al ai ao aP b1 y a9;obtain ⟨av,aq⟩:=eqx (eD au a2.heap.size D.heap.size 1);rw [aq] at v J;have aQ:D.cell? ⟨gl,3,none⟩=some (.int .i64 mv):=(v.a.cell 3).trans rfl;have aO:=v.a.frozen 3;have b2:=v.a.lt;go_wp2_with fail;obtain ⟨ap,am⟩:=v.ah (wrap64 (mv+1));have aa:=(J.trans am);clear am aQ aO b2 v J aq;generalize D.setCell ⟨gl,3,none⟩ (.int .i64 (wrap64 (mv+1)))=w9 at ap aa⊢;have a7:=nO (Z:Int) (c:Int) w9 oM;rw [mX] at a7;have bC:bN Z c<=896:=(by unfold bN;split <;> omega);obtain ⟨bf,ay⟩:=eqx (bN Z c);rw [ay] at a7 bC;have a4:=zO (r:=(bf:Int)) (q:Int) w9 oM;rw [zH] at a4;have ax:=aw;rw [ay] at ax;have cu:=zy ((Z:Int)>=0);have aI:=lhd ax;obtain ⟨cw,b4⟩:=eqx (inR bf q);rw [b4] at a4 aI;clear ax ay b4;go_wp2_with fail;refine a7.mono ?_;rintro t cx ⟨rfl,rfl⟩;go_wp2_with fail;refine a4.mono ?_;rintro t cy ⟨rfl,rfl⟩;clear a7 a4;go_wp2_with fail;go_roundw
       case rel=>have b6:LiveM w9 B av gl gk gp rate (wrap64 (mv+1)) (N+1) (N+1) (aT (aK (aH S R) (ro R j)) (tgt S R j) (bS S j)) T pr':=(by rw [aA.out,I.out,E.out,bh.out];exact ap);have bd:=aAd x a5 b6 (by rw [I.out,E.out];exact bb) aa br;have b8:=(mV x.P a5).2.1;exact ⟨j,av,wrap64 (mv+1),_,pr',by omega,rfl,by rw [b8,E.out],by rw [aI.out,I.out,E.out],bd⟩
       case measure=>simp [intOf];have:=an;omega
end
def vL {C g aa a9} (o) {ak q} (V:PermE q C g aa a9 ak) (a3:o < ak.length):
 Calls prog 156 #[g,(o:Int)] q λf a6=>f=.returned (.tuple #[])/\PermE a6 (Gw C q.heap.size) g aa a9 (aK ak o)/\Keep C q a6:=by
 obtain ⟨⟨j,aH,aI,v,u,x,U,P,Q,I,rfl⟩,bi,b1⟩:=V;rw [zBc] at a3;have N:=I.at_;have bH:=iS I.nd N.lt;have bB:=I.sz;obtain ⟨b,W⟩:∃b,x[o]?=some b:=⟨_,zAa a3⟩;have bb:=zAd W;have ag:=(I.tkk b).2 bb;obtain ⟨r,L,O,_,b6⟩:=kj N.t oM;have a8:=N.t;rw [O] at a8;have aN:q.cell? g=some (.pointer (some j)):=(N.a.cell 0).trans rfl;have a1:q.cell? ⟨g,2,none⟩=some (.slice (some r) x.length L):=(N.a.cell 2).trans (by rw [O];rfl);have am:q.cell? ⟨r,o,none⟩=some (.int .i64 b):=(kh a8 o oM).trans (by rw [zAf,W];rfl);have b7:=N.a.lt;have bC:Q.length<=1000:=by have:=iS I.a8 λe J=>(zAc.1 ((I.am e).1 J)).1;have:=I.an;omega
 obtain ⟨E,T⟩:=eqx x.length;have bJ:E<=1000:=oM;rw [T] at a1 a3 a8;have bG:(o:Int) < E:=oM;have bF:(0:Int)<=o:=oM;have bz:wrap64 (o+1)=((o+1:Nat):Int):=by rw [dU oM oM];rfl
 have t:=I;have aM:=W;clear I W a8 N;go_enter func156,ntmps156;go_wp2_with fail;refine wp_region_any kR<|bM (pre:=(λZ=>PermX Z C g j aH aI v u aa a9 x U P Q)) (pJ:=(λ_ Z=>ArenaE Z (Gw (AF j v u) q.heap.size) j (P.set b false) (Q++ [b]))) [4,5,6,7,8,9,10,11,12,13,14,15,16] (AF j v u) 12 [12] [is g,is g,is g,is j,is g,is g,is (.pointer (some ⟨g,2,none⟩)),is (.slice (some r) E L),is (o:Int),is (.pointer (some ⟨r,o,none⟩)),is (b:Int),pT (AF j v u) 3 #[(b:Int)] λR=>.slice (some ⟨R,0,none⟩) 1 1,cO] _ rfl kR kR (t.drewN 1) (λZ H V _ b5=> { V with at_:=V.at_.below b5 }) (λ_ _ _ V b=>V.keep (G:=λ_=>False) (kF b) λ_ _ _ _ _ _ s=>s) tA3 ?_ ?_
 .refine aL<|pH3 0 (.pointer (some g))<|pV3 0 4<|pV3 1 5<|pL3 2 6 (λz m=>have m:Keep (AF j v u) q z:=kD m;(((m.d t.at_.a t.bj).cell 0).trans rfl:z.cell? g=some (.pointer (some j)))) ?_;refine pH3 0 (.pointer (some g))<|pV3 4 8<|pV3 5 9<|pL3 6 10 (λz m=>have m:Keep (AF j v u) q z:=kD m;((m.cell (p:=⟨g,2,none⟩) b7 t.bj).trans a1:z.cell? ⟨g,2,none⟩=some (.slice (some r) E L))) ?_;refine pH3 1 (.int .i64 o)<|pW3 7 11 8 12<|pL3 9 13 (λz m=>have m:Keep (AF j v u) q z:=kD m;((m.cell (p:=⟨r,o,none⟩) b6 (t.aw (by rw [O];rfl))).trans am:z.cell? ⟨r,o,none⟩=some (.int .i64 b))) ?_;refine sC3 (λ_ z m _ _ _ _ Y _ _ _ ab=>?_) ?_
  .replace m:Keep (AF j v u) q z:=kD m;have bu:_=_:=Y 10 14 kR rfl;go_simp;exact ab _ _ (aE (bR.alloc nL _)) ⟨_,rfl,kd _ _ _,λs=>by have ap:=t.cx s;have aq:=m.size;omega⟩
  refine sC3 (λao z m aZ _ _ _ Y _ _ _ ab=>?_) ?_
  .replace m:Keep (AF j v u) q z:=kD m;have bh:=aZ rfl;have bw:_=_:=Y 3 7 kR rfl;have bn:(pT (AF j v u) 3 #[(b:Int)] λR=>.slice (some ⟨R,0,none⟩) 1 1) (ao (.tmp 15)) z:=Y 11 15 kR rfl;obtain ⟨aO,bv,b0,bI⟩:=bn;go_simp;refine (aFN (F:=(AF j v u)) (ga:=j) (gs:=aO) (k:=b) (tk:=P) (fr:=Q) (w:=z) bh.bb ag b0 oM).mono ?_;rintro f bL ⟨rfl,aY,b8⟩
   exact ab _ _ (aW b8) (aY.mono λa _ s=>by
    rcases s with s | s;exact .inl s
    .exact .inr (zAk m.size s))
  exact aB
 .intro ao al m Y ax;replace m:Keep (AF j v u) q al:=kD m;obtain ⟨bK,aj⟩:∃bo,(λ_ Z=>ArenaE Z (Gw (AF j v u) q.heap.size) j (P.set b false) (Q++ [b])) bo al:=ax 12 dC;simp only [zqq];clear Y ax;obtain ⟨H,bm⟩:∃H,H=al:=⟨_,rfl⟩;subst bm;have a4:=m;have av:=aj;clear aN a1 am;have a7:=a4.d t.at_.a t.bj;have bj:=aC (w':=H) t.at_.u λa D _ d=>a4.d d (t.bn d);have ai:=aC (w':=H) t.at_.t λa D d W=>a4.d W (t.aw d);rw [T,O,T] at ai;have a1:H.cell? ⟨g,2,none⟩=some (.slice (some r) E L):=(a7.cell 2).trans (by rw [O,T];rfl);have bD:=a7.lt;have b9:Keep C q H:=(ke C q).trans (a4.mono λa _ s=>t.af s);have aV:=ArenaE.mono av (G:=λa=>Gw (AF j v u) q.heap.size a/\a < H.heap.size) λa d s=>⟨s,d⟩;have ay:=aBU (B:=0) (A:=(some ⟨r,0,none⟩)) (n:=E) (c:=L) (i:=o) (ks:=x) (w:=H) ai a3 oM;clear av a4 aj m;go_wp2_with fail;refine ay.mono ?_;rintro f a0 ⟨rfl,bg,X⟩;rw [show (Value.slice (some r) E L).ownBlock=some r from rfl] at X;have ah:∀a M D,M≠3->Bk H a M D->¬(some r=some a):=λa M D ht d f=>by obtain ⟨bs,b2⟩:=fX ai (show (Value.slice (some r) E L).ownBlock=some a from f);exact ht (aU d b2).1
  have aA:¬(Gw (AF j v u) q.heap.size r/\r < H.heap.size):=λs=>by have an:aI.ownBlock=some r:=(by rw [O];rfl);rcases s.1 with s | s;exact t.aw an s;have:=(t.at_.t.lt r an).2;omega
  have a2:=X.d a7 (ah _ _ _ dC a7);have bl:=aC (w':=a0) bj λa D _ d=>X.d d (ah _ _ _ dC d);have aX:=aV.keep X λa M D _ _ s f=>by injection f with f;subst f;exact aA s
  have b4:C r:=t.fo r (by rw [O];rfl);have ba:Keep C q a0:=b9.trans (X.mono λa _ f=>by
   injection f with f;subst f;exact b4)
  have a1:a0.cell? ⟨g,2,none⟩=some (.slice (some r) E L):=(a2.cell 2).trans (by rw [O,T];rfl);have bx:=a2.frozen 2;have bE:=a2.lt;clear ah X ay;go_wp2_with fail;go_end0;have ad:Keep (λa=>a=g) a0 (a0.setCell ⟨g,2,none⟩ (.slice (some r) (E - 1) L)):=ka (F:=λa=>a=g) (ke _ _) (p:=⟨g,2,none⟩) (.inl rfl) _;have ac:∀a M D,M≠128->Bk a0 a M D->¬(a=g):=λa M D ht d f=>by subst f;exact ht (aU d a2).1
  obtain ⟨bA,bq,bt,bp,br,ap,aq,aP,aQ,ar⟩:=aX.keep ad λa M D ht d _=>ac a M D (λf=>by subst f;revert ht;decide) d;have y:=t;have aG:(b::aK x o).Perm x:=fH aM;have bf:=aG.nodup_iff.2 y.nd;obtain ⟨bd,be⟩:=zDe.1 bf;have aD:∀e,e∈aK x o↔e∈x/\e≠b:=λe=>by rw [<-aG.mem_iff,zDf];constructor;intro J;exact ⟨.inr J,λf=>bd (by rw [<-f];exact J)⟩;rintro ⟨S | S,aR⟩;exact absurd S aR;exact S
  have b3:(aK x o).length=E - 1:=(by have:=cJ (l:=x) (k:=o) (by rw [T];exact a3);have:=T;omega);have aw:∀a,Gw (AF j v u) q.heap.size a/\a < H.heap.size->Gw C q.heap.size a:=λa s=>by rcases s.1 with R | R;exact .inl (y.af R);exact .inr R
  have bc:b < P.length:=(zAc.1 ag).1;have az:∀e,(P.set b false)[e]?=if e=b then some false else P[e]?:=λe=>by
   rw [zBm];by_cases K:b=e
   .subst K;simp [bc]
   .rw [zBw K,zBw (λf=>K f.symm)]
  refine ⟨rfl,⟨⟨j,aH,.slice (some r) (E - 1) L,_,_,aK x o,U,P.set b false,Q++ [b],⟨⟨a2.set 2 _,aC bl λa D _ d=>ad.d d (ac _ _ _ dC d),?_,ap,aq,aP,.inr λf=>aA (ar r f.symm),λe J=>y.at_.lt e ((aD e).1 J).1,⟨zAp _,zAp _⟩⟩,.inl y.fp,.inl y.fa,λa d=>.inl (y.fl a d),λa d=>.inl (y.fo a (by rw [O];exact d)),λa d=>aw a (aQ a d),λa d=>aw a (ar a d),be,by rw [zAt];exact y.an,λe=>?_,?_,λe=>?_,y.sz⟩,(uY _ _ _).symm⟩,?_,λe J=>?_⟩,ka (F:=C) ba (p:=⟨g,2,none⟩) (.inl y.fp) _⟩;rw [b3];exact aC bg λa D _ d=>ad.d d (ac _ _ _ dC d)
  .rw [az,aD e,<-y.tkk e];by_cases K:e=b
   .simp [K]
   .simp [K]
  .rw [zDb];refine ⟨y.a8,by simp,λe J aJ a5=>?_⟩;rw [zDa] at a5;subst a5;intro f;subst f;have au:=(y.am e).1 J;have aT:=ag;rw [aT] at au;cases au
  .rw [az,zCp,y.am e,zDa];by_cases K:e=b
   .simp [K]
   .simp [K]
  unfold aK;rw [zEx];have ae:=bi;refine ⟨ae.sublist (zEY _ _),ae.sublist (zGl _ _),λe I aJ a5=>?_⟩;have:=zEx.1 (show ((x.map λb=>(aF U b,aS U b)).take o++(x.map λb=>(aF U b,aS U b)).drop o).Pairwise (λN a=>N.1 < a.1) by rw [zAu];exact ae);refine this.2.2 e I aJ ?_;rw [<-zFB] at a5;exact zFz a5;refine b1 e ?_;unfold aK at J;rcases zCp.1 J with S | S;exact zFy S;exact zFz S
def aH8 {a:List (Nat×Nat)} {b:Nat} (p:a.Pairwise (λc d=>c.1 < d.1)) (o:b < a.length) (e:Nat×Nat):e∈aK a b↔e∈a/\e.1≠a[b].1:=by
 have i:(a[b]::aK a b).Perm a:=fH (zAa o);have q:(a[b]::aK a b).Pairwise (λc d:Nat×Nat=>c.1≠d.1):=i.symm.pairwise (p.imp λ{c d} g=>zGh g) λ{c d} g f=>g f.symm;obtain ⟨k,r⟩:=zEf.1 q;constructor;intro j;exact ⟨i.subset (by simp [j]),λf=>k e j f.symm⟩;rintro ⟨l,m⟩;rcases zDf.1 (i.symm.subset l) with rfl | n;exact absurd rfl m;exact n
def aBs (b:Nat->Prop) (k g f row:Nat) (l:List (Nat×Nat)) (d:World) (j:Ending) (e:World):Prop:=
 ∃(i:Int) (c:List (Nat×Nat)),j=.returned (.int .i64 i)/\(∀a,a∈c↔a∈l/\a.1≠row)/\PermE e (Gw b d.heap.size) k g f c/\Keep b d e
def aDV {w} {q y x:Nat} (row:Nat) {D v} (z:PermE v w q y x D):
 Calls prog 153 #[q,(row:Int)] v (aBs w q y x row D v):=by
 have A:=z;obtain ⟨⟨M,R,S,T,Q,i,c,P,L,b,rfl⟩,u,C⟩:=z;have t:=zDm.1 u;have o:i.Pairwise (λF p=>aF c F < aF c p):=t;have O:=iS b.nd b.at_.lt;have N:=b.sz;have d:=lS row b.at_ o oM;unfold aBs;by_cases j:∃a∈i,aF c a=row
 .rw [zBz j] at d;obtain ⟨a,s,n⟩:=(wZ o row).2 j;obtain ⟨e,k⟩:∃e,(i.countP λa=>decide (aF c a < row))=e:=⟨_,rfl⟩;rw [k] at d s;have r:=(zAc.1 s).1;have E:=n;clear b C o t j n k;go_enter func153,ntmps153;go_wp2_with fail;refine d.mono ?_;rintro l w1 ⟨rfl,g⟩;clear d;go_wp2_with fail;have B:=A.below g;refine (vL e B (by rw [zBc];exact r)).mono ?_;rintro l U ⟨rfl,G,n⟩;clear B;go_wp2_with fail;go_ret;refine ⟨0,_,rfl,λK=>?_,G.mono λp _ f=>?_,(kF g).trans n⟩
  .have J:e < (i.map λa=>(aF c a,aS c a)).length:=(by rw [zBc];exact r);rw [aH8 u J];have H:((i.map λa=>(aF c a,aS c a))[e]).1=row:=(by rw [zGr];have m:=s;rw [zAa r] at m;injection m with m;rw [m];exact E);rw [H]
  rcases f with f | f;exact .inl f;exact .inr (zj g.size)
 .rw [zBy j] at d;obtain ⟨e,k⟩:∃e,(i.countP λa=>decide (aF c a < row))=e:=⟨_,rfl⟩;rw [k] at d;clear b u C o t k;go_enter func153,ntmps153;go_wp2_with fail;refine d.mono ?_;rintro l w1 ⟨rfl,g⟩;clear d;go_wp2_with fail;go_ret;refine ⟨7,_,rfl,λK=>?_,(A.below g).mono λp _ f=>.inl f,kF g⟩;constructor;intro b;refine ⟨b,λl=>?_⟩;obtain ⟨a,I,rfl⟩:=zAy.1 b;exact j ⟨a,I,l⟩;intro b;exact b.1
def aMR {b c a} (d:b < c) (e:b≠a) (f:c≠a):bN b a < bN c a:=by
 unfold bN;split <;> split <;> omega
def aBg {j g r t} (d) {a9 a} (u:PermE a j g r t a9) (al:∀c,j c->c < a.heap.size) (ax:d < r) (am:r<=100000) (aK:t<=100000):
 Calls prog 95 #[g,(d:Int)] a λo ab=>o=.returned (.int .i64 0)/\(∃K:List (Nat×Nat),(∀i,i∈K↔i∈a9/\i.1≠d)/\PermE ab (Gw j a.heap.size) g (r - 1) t (K.map λi=>(bN i.1 d,i.2)))/\Keep j a ab:=by
 obtain ⟨e,rfl⟩:∃e,r=e+1:=⟨r - 1,by omega⟩;rw [zBb];have aq:g < a.heap.size:=by obtain ⟨⟨D,z,N,O,M,w,l,L,C,q,_⟩,_⟩:=u;exact q.at_.a.lt
 have B:a.cell? ⟨g,3,none⟩=some (.int .i64 (e+1:Nat)):=by obtain ⟨⟨D,z,N,O,M,w,l,L,C,q,_⟩,_⟩:=u;exact (q.at_.a.cell 3).trans rfl
 have a8:¬((d:Int)>=(e+1:Nat)):=oM;have ay:¬e+1<=d:=oM;have az:=zBy a8;have aP:decide ((d:Int) < 0)=false:=zs
 have ag:IntKind.i64.wrap ((e+1:Nat) - 1)=(e:Int):=zu
 obtain ⟨A,X⟩:=eqx (e+1);rw [X] at B a8 az ag u am ax ay;obtain ⟨m,v⟩:=eqx (a.alloc (.cells #[(d:Int)] 3));have E:Below a.heap.size a m:=by rw [<-v];exact bR.alloc nL _
 have H:Bk m a.heap.size 3 #[(d:Int)]:=by rw [<-v];exact kd a _ _
 have aA:∀aa,(m.drewN aa).cell? a.heap.size=some (.int .i64 d):=λaa=>(H.cell 0).trans rfl;have aC:m.cell? a.heap.size=some (.int .i64 d):=(H.cell 0).trans rfl;have aB:m.cell? ⟨g,3,none⟩=some (.int .i64 A):=(E.cell (p:=⟨g,3,none⟩) aq).trans B;have aw:m.heap.size=a.heap.size+1:=by rw [<-v,sZ0]
 have aM:g < m.heap.size:=oM;have ai:=u.below E;have ae:=lhd v;clear u v B;go_enter func95,ntmps95;go_wp2_with fail;rw [ae.out];go_quiet (fail)
 rename_i nq
 have aO:∀(S:Fn) (first R:Array Value) (a:World),(Instr.makeFunc S first R).run prog a=.ok (.func S first R) a:=λ_ _ _ _=>rfl;go_wp2_with fail;have W:=ai.below (km bR nq);have G:=aDV d W;unfold aBs at G;refine G.mono ?_;rintro o P ⟨aD,K,rfl,y,aj,a4⟩;obtain ⟨⟨D,z,N,O,M,w,l,L,C,q,rfl⟩,av,a0⟩:=aj;have x:=q.at_;have aG:P.cell? ⟨g,3,none⟩=some (.int .i64 A):=(x.a.cell 3).trans rfl;have aI:=x.a.frozen 3;have aL:=x.a.lt;have I:Bk P a.heap.size 3 #[(d:Int)]:=a4.d (H.drewN nq) λo=>by have:=al _ o;omega
 have aQ:P.cell? a.heap.size=some (.int .i64 d):=(I.cell 0).trans rfl;have b:=q;clear q x G W aA aC aB;go_wp2_with fail;have Y:=b.at_.bd e;have a3:=I.m (p:=⟨g,3,none⟩) (λo=>by have aH:a.heap.size=g:=o;omega) (.int .i64 e);have a6:∀c,z.ownBlock=some c->c≠a.heap.size:=λc s o=>by subst o;obtain ⟨aE,ap⟩:=fX b.at_.u s;exact absurd (aU ap I).1 dC
 have V:∀k,k∈w->aF l k<=1000000000000/\aS l k<=1000000000000:=λk ar=>by have:=a0 (aF l k,aS l k) (zAy.2 ⟨k,ar,rfl⟩);have U:aF l k < A:=this.1;have ah:aS l k < t:=this.2;omega
 have aN:=iS b.nd b.at_.lt;refine (aBp Y b.nd (zj b.sz) a3 a6 V).mono ?_;rintro o ac ⟨rfl,a5,ad,J,a1,Z⟩;have a2:∀c,Gw j (m.drewN nq).heap.size c->Gw j a.heap.size c:=λc n=>by rcases n with n | n;exact .inl n;exact .inr (by have:=aw;simp at n;omega)
 have au:Keep j a ac:=((kF (km E nq)).trans a4).trans' ((ka (F:=Gw j (m.drewN nq).heap.size) (ke _ _) (p:=⟨g,3,none⟩) (.inl b.fp) _).trans (a5.mono λc _ s=>b.fl c s)) λc s n=>by rcases a2 c n with T | T;exact T;omega
 have ak:PermE ac (Gw j a.heap.size) g e t ((w.map λk=>(aF l k,aS l k)).map λi=>(bN i.1 d,i.2)):=by
  refine PermE.mono (F:=Gw j (m.drewN nq).heap.size) ⟨⟨D,z,N,O,M,w,ad,L,C,⟨Z,b.fp,b.fa,b.fl,b.fo,b.ft,b.ff,b.nd,by rw [J];exact b.an,b.tkk,b.a8,b.am,by rw [J];exact b.sz⟩,(aC3 (f:=λi=>(bN i.1 d,i.2)) a1).symm⟩,?_,λi q=>?_⟩ λc _ n=>a2 c n;refine zDm.2 (List.Pairwise.imp_of_mem (λ{af c} an s ao=>?_) av);exact aMR ao ((y af).1 an).2 ((y c).1 s).2
  .obtain ⟨Q,a7,rfl⟩:=zAy.1 q;have U:=a0 Q a7;have ah:=((y Q).1 a7).2;have aJ:=X;refine ⟨?_,U.2⟩;show bN Q.1 d < e;unfold bN;split <;> omega
 clear Z a1 a5 J V a6 a3 Y;go_wp2_with fail;go_ret;exact ⟨rfl,⟨_,y,ak⟩,au⟩
def aBh {n i J O} (d) {k c} (o:PermE c n i J O k) (aL:∀t,n t->t < c.heap.size) (b7:d < O) (bg:J<=100000) (aM:O<=100000) (ak:∀b∈k,∀m∈k,b.2=m.2->b=m):
 Calls prog 96 #[i,(d:Int)] c λe I=>e=.returned (.int .i64 0)/\(∃M:List (Nat×Nat),(∀b,b∈M↔b∈k/\b.2≠d)/\PermE I (Gw n c.heap.size) i J (O - 1) (M.map λb=>(b.1,bN b.2 d)))/\Keep n c I:=by
 obtain ⟨q,rfl⟩:∃q,O=q+1:=⟨O - 1,by omega⟩;rw [zBb];have aV:i < c.heap.size:=by obtain ⟨⟨y,v,B,C,A,r,j,z,x,a,_⟩,_⟩:=o;exact a.at_.a.lt
 have a2:c.cell? ⟨i,4,none⟩=some (.int .i64 (q+1:Nat)):=by obtain ⟨⟨y,v,B,C,A,r,j,z,x,a,_⟩,_⟩:=o;exact (a.at_.a.cell 4).trans rfl
 have ar:¬((d:Int)>=(q+1:Nat)):=oM;have b8:¬q+1<=d:=oM;have b9:=zBy ar;have bl:decide ((d:Int) < 0)=false:=zs
 have aD:IntKind.i64.wrap ((q+1:Nat) - 1)=(q:Int):=zu
 obtain ⟨P,ai⟩:=eqx (q+1);rw [ai] at a2 ar b9 aD o aM b7 b8;obtain ⟨u,S⟩:=eqx (c.alloc (.cells #[(d:Int)] 3));have Y:Below c.heap.size c u:=by rw [<-S];exact bR.alloc nL _
 have Z:Bk u c.heap.size 3 #[(d:Int)]:=by rw [<-S];exact kd c _ _
 have au:∀a1,(u.drewN a1).cell? c.heap.size=some (.int .i64 d):=λa1=>(Z.cell 0).trans rfl;have aw:u.cell? c.heap.size=some (.int .i64 d):=(Z.cell 0).trans rfl;have av:u.cell? ⟨i,4,none⟩=some (.int .i64 P):=(Y.cell (p:=⟨i,4,none⟩) aV).trans a2;have aa:u.heap.size=c.heap.size+1:=by rw [<-S,sZ0]
 have bh:i < u.heap.size:=oM;have aI:=o.below Y;obtain ⟨ay,az⟩:=hqq2 S ak;clear o S a2 ak;go_enter func96,ntmps96;go_wp2_with fail;rw [ay.out];go_quiet (fail)
 rename_i nq
 have bj:∀(ad:Fn) (first ac:Array Value) (c:World),(Instr.makeFunc ad first ac).run prog c=.ok (.func ad first ac) c:=λ_ _ _ _=>rfl;go_wp2_with fail;have R:=aI.below (km bR nq);have a6:Calls prog 86 #[i,(d:Int)] (u.drewN nq) λe I=>Below (u.drewN nq).heap.size (u.drewN nq) I/\((e=.returned (.int .i64 (-1))/\∀b∈k,b.2≠d)∨∃H b,e=.returned (.int .i64 (H:Nat))/\k[H]?=some b/\b.2=d):=by
  obtain ⟨⟨y,v,B,C,A,r,j,z,x,a,rfl⟩,ao,a3⟩:=R;have b0:=iS a.nd a.at_.lt;have bf:=a.sz;refine (kE d a.at_ oM).mono ?_;rintro e I ⟨rfl,Q⟩;refine ⟨Q,?_⟩;by_cases a5:∃g∈r,aS j g=d
  .obtain ⟨a1,b,b1,b4,b5⟩:=xZ (p:=λg=>decide (aS j g=d)) (l:=r) (by obtain ⟨g,aX,a8⟩:=a5;exact ⟨g,aX,zBz a8⟩) 0;rw [b1,zBi];exact .inr ⟨a1,_,rfl,by rw [zAf,b4];rfl,of_decide_eq_true b5⟩
  rw [mD (p:=λg=>decide (aS j g=d)) (l:=r) (λg U=>zBy λe=>a5 ⟨g,U,e⟩) 0];refine .inl ⟨rfl,λb a=>?_⟩;obtain ⟨g,U,rfl⟩:=zAy.1 a;exact λe=>a5 ⟨g,U,e⟩
 have an:∀s (M:List (Nat×Nat)),(∀b,b∈M↔b∈k/\b.2≠d)->PermE s (Gw n c.heap.size) i J P M->Keep n c s->Bk s c.heap.size 3 #[(d:Int)]->∃y v B C A r j z x,PermX s (Gw n c.heap.size) i y v B C A J P r j z x/\Calls prog 154 #[i,.func (.func 157) #[] #[c.heap.size]] (s.setCell ⟨i,4,none⟩ (.int .i64 q)) λe I=>e=.returned (.tuple #[])/\PermE I (Gw n c.heap.size) i J q (M.map λb=>(b.1,bN b.2 d))/\Keep n c I:=by
  rintro s M a0 ⟨⟨y,v,B,C,A,r,j,z,x,a,rfl⟩,ao,a3⟩ a8 E;refine ⟨y,v,B,C,A,r,j,z,x,a,?_⟩;have aO:=a.at_.ay q;have T:=E.m (p:=⟨i,4,none⟩) (λe=>by have bd:c.heap.size=i:=e;omega) (.int .i64 q);have b3:∀t,v.ownBlock=some t->t≠c.heap.size:=λt Q e=>by subst e;obtain ⟨bc,aQ⟩:=fX a.at_.u Q;exact absurd (aU aQ E).1 dC
  have aH:∀g,g∈r->aF j g<=1000000000000/\aS j g<=1000000000000:=λg U=>by have:=a3 (aF j g,aS j g) (zAy.2 ⟨g,U,rfl⟩);have af:aF j g < J:=this.1;have aG:aS j g < P:=this.2;omega
  have b0:=iS a.nd a.at_.lt;refine (aBq aO a.nd (zj a.sz) T b3 aH).mono ?_;rintro e N ⟨rfl,aY,ax,al,aT,aP⟩;refine ⟨rfl,⟨⟨y,v,B,C,A,r,ax,z,x,⟨aP,a.fp,a.fa,a.fl,a.fo,a.ft,a.ff,a.nd,by rw [al];exact a.an,a.tkk,a.a8,a.am,by rw [al];exact a.sz⟩,(aC3 (f:=λb=>(b.1,bN b.2 d)) aT).symm⟩,zDm.2 (ao.imp λ{bb t} aN=>aN),λb b6=>?_⟩,?_⟩
  .obtain ⟨m,L,rfl⟩:=zAy.1 b6;have af:=a3 m L;have aG:=((a0 m).1 L).2;have be:=ai;refine ⟨af.1,?_⟩;show bN m.2 d < q;unfold bN;split <;> omega
  .refine a8.trans' ((ka (F:=Gw n c.heap.size) (ke _ _) (p:=⟨i,4,none⟩) (.inl a.fp) _).trans (aY.mono λt _ Q=>a.fl t Q)) λt Q w=>by rcases w with ae | ae;exact ae;omega
 refine a6.mono ?_;rintro e s ⟨D,⟨rfl,am⟩|⟨H,b,rfl,a9,aq⟩⟩
 .have E:Bk s c.heap.size 3 #[(d:Int)]:=(Z.drewN nq).below D (by have:=aa;simp;omega);have W:Keep n c s:=(kF (km Y nq)).trans (kF D);have K:=(R.below D).mono (G:=Gw n c.heap.size) λt _ w=>.inl w;obtain ⟨y,v,B,C,A,r,j,z,x,a,a4⟩:=an s k (λb=>⟨λo=>⟨o,am b o⟩,λo=>o.1⟩) K W E;have aC:s.cell? ⟨i,4,none⟩=some (.int .i64 P):=(a.at_.a.cell 4).trans rfl;have aE:=a.at_.a.frozen 4;have aW:=a.at_.a.lt;have ba:s.cell? c.heap.size=some (.int .i64 d):=(E.cell 0).trans rfl;clear a K W E D R a6 au aw av;go_wp2_with fail;refine a4.mono ?_;rintro e N ⟨rfl,X,V⟩;go_wp2_with fail;go_ret;exact ⟨rfl,⟨k,λb=>⟨λo=>⟨o,am b o⟩,λo=>o.1⟩,X⟩,V⟩
 .have E:Bk s c.heap.size 3 #[(d:Int)]:=(Z.drewN nq).below D (by have:=aa;simp;omega);have K:=R.below D;have a7:=(zAc.1 a9).1;have aj:=vL H K a7;have aB:=lhd K.2.1;have aA:=lhd (λm (L:m∈k) b (a:b∈k) (e:m.1=b.1)=>K.inj L a e);have bi:=zy ((H:Int)>=0);have b2:=D.size;have ab:=lhd aq;clear aq K R a6 au aw av;go_wp2_with fail;refine aj.mono ?_;rintro e N ⟨rfl,X,V⟩;have T:Bk N c.heap.size 3 #[(d:Int)]:=V.d E λe=>by have:=aL _ e;omega
  have W:Keep n c N:=((kF (km Y nq)).trans (kF D)).trans V;have a0:∀m,m∈aK k H↔m∈k/\m.2≠d:=λm=>by
   rw [aH8 aB a7];have aR:k[H]=b:=(by have ag:=a9;rw [zAa a7] at ag;injection ag);rw [aR];have ap:b∈k:=zAd a9;refine and_congr_right λL=>not_congr ⟨λe=>?_,λe=>?_⟩;rw [aA m L b ap e];exact ab
   .rw [az m L b ap (by rw [e,ab.out])]
  have ah:=X.mono (G:=Gw n c.heap.size) λt _ w=>by rcases w with w | w;exact .inl w;exact .inr (by have:=aa;simp at b2;omega)
  obtain ⟨y,v,B,C,A,r,j,z,x,a,a4⟩:=an N (aK k H) a0 ah W T;have aC:N.cell? ⟨i,4,none⟩=some (.int .i64 P):=(a.at_.a.cell 4).trans rfl;have aE:=a.at_.a.frozen 4;have aW:=a.at_.a.lt;have ba:N.cell? c.heap.size=some (.int .i64 d):=(T.cell 0).trans rfl;clear a ah X W T V aj;go_wp2_with fail;refine a4.mono ?_;rintro e bm ⟨rfl,aJ,aZ⟩;go_wp2_with fail;go_ret;exact ⟨rfl,⟨_,a0,aJ⟩,aZ⟩
def aBK (b e d c row a) (g:PermR a b e d c) (l:∀o∈c,o.1≠row):
 Calls prog 118 #[b,(row:Int)] a λf n=>f=.returned (.int .i64 (-1))/\Below a.heap.size a n:=by
 obtain ⟨p,s,y,z,A,x,v,q,w,r,i,j,t,u,rfl⟩:=g;exact aDT row i j oM λm k=>l _ (zAy.2 ⟨m,k,rfl⟩)
def sU (c g f e row d a) (i:PermR a c g f e) (l:(row,d)∈e):
 Calls prog 118 #[c,(row:Int)] a λb n=>b=.returned (.int .i64 d)/\Below a.heap.size a n:=by
 obtain ⟨o,r,y,z,A,x,v,p,w,q,j,k,s,t,rfl⟩:=i;obtain ⟨u,m,b⟩:=zAy.1 l;injection b with e1 e2;subst e2;exact aDS j k oM oM m e1
def aDZ (G W gk x ar:Nat) (e d g) (r n:Nat) (F) (y:LiveG F G W gk x ar (e.length+1) (aH (aG e) d) g) (P:∀j∈g,d[j.1]?=some j.2) (a1:∃j∈g,j.2=0) (q:IsSuf (aG e) d) (ae:e.length<=895) (N:d[r]?=some n):
 Calls prog 56 #[W,(r:Int)] F λi au=>i=.returned (.int .i64 n)/\VB G F au:=by
 have O:d.length=e.length+1:=by rw [q.len,aO]
 have a6:=(zAc.1 N).1;have J:(aH (aG e) d).length=e.length+1:=by rw [bY,O]
 have ag:n < e.length+1:=by have:=q.lt (zAd N);rwa [aO] at this
 obtain ⟨k,K⟩:=eqx e.length;have an:∀a:Nat,d[a]?=some 0->(a,0)∈g:=λa z=>by obtain ⟨⟨aq,ap⟩,E,i⟩:=a1;have a4:ap=0:=i;subst a4;have f:d[aq]?=some 0:=P _ E;rw [zC q z f];exact E
 have ah:∀a b c:Nat,d[a]?=some b->(a,c)∈g->c=b:=λa b c m ad=>by have f:d[a]?=some c:=P _ ad;rw [m] at f;injection f with f;exact f.symm
 have al:∀a b:Nat,d[a]?=some (b+1)->∃S s,(aH (aG e) d)[a]?=some S/\cR (aH (aG e) d) S a=s/\d[s]?=some b:=λa b m=>by obtain ⟨z,U⟩:=zAc.1 m;have M:b+1 < (aG e).length:=q.lt (zAd m);obtain ⟨s,Y,V⟩:=q.row (p:=b) oM;have a0:=fA e;have ab:=uT a0 z U (by rw [aO] at M;omega);exact ⟨(aG e).getD b 0,s,zAc.2 ⟨_,ab⟩,lf q a0 z Y U V,zAc.2 ⟨Y,V⟩⟩
 rw [K] at y;rw [K] at J ag ae O;have aa:¬(k:Int) < r:=oM;have a7:decide ((r:Int) < 0)=false:=zs
 have a8:decide ((r:Int) > k)=false:=zt
 have a9:decide (k < r)=false:=zt
 have a3:=(dR (eX e) (rs:=d));obtain ⟨aA,B⟩:=y.a;have v:=B.cell 0;have w:=B.cell 1;have ax:=B.lt;clear a1 P q a6 K O B;go_enter func56,ntmps56;go_wp2_with fail;refine (cD y.ai J oM).mono ?_;rintro i w1 ⟨rfl,rfl⟩;go_wp2_with fail;clear v w aa a7 a8 a9;go_loopw [1,5] (λj T wr=>∃a b u:Nat,d[a]?=some b/\b+u=n/\j=.int .i64 a/\T=.int .i64 u/\VB G F wr) (λ_ T _=>n+1 -(intOf T).toNat)
 case atStart=>exact ⟨r,n,0,N,rfl,rfl,rfl,VisK.refl _ _⟩
 case round=>
  obtain ⟨a,b,u,m,M,rfl,rfl,Q⟩:=hrel;have f:=y.b Q.1;obtain ⟨aB,C⟩:=f.a;have v:=C.cell 0;have w:=C.cell 1;have ay:=C.lt;clear C;by_cases A:∃c,(a,c)∈g
  .obtain ⟨c,L⟩:=A;have a5:=ah a b c m L;subst a5;have aw:¬(c:Int) < 0:=oM;have az:IntKind.i64.wrap (c+u)=(n:Int):=zu;clear M;go_wp2_with fail;refine (sU x (k+1) (k+1) g a c wr f.perm L).mono ?_;rintro i a2 ⟨rfl,o⟩;have t:=f.b (kb o);obtain ⟨ao,l⟩:=t.a;have H:=l.cell 0;have I:=l.cell 1;have ac:=l.lt;have R:=Q.below o;clear v w o l;go_wp2_with fail;refine (sU x (k+1) (k+1) g a c a2 t.perm L).mono ?_;rintro i av ⟨rfl,Z⟩;have D:=R.below Z;clear H I Z;go_wp2_with fail;go_ret;exact ⟨rfl,D⟩
  .have af:∀j∈g,j.1≠a:=λj E i=>A ⟨j.2,by rw [<-i];exact E⟩
   obtain ⟨c,rfl⟩:∃c,b=c+1:=⟨b - 1,by
    rcases zBa b with X | X;subst X;exact absurd ⟨0,an a m⟩ A
    .omega⟩
   obtain ⟨S,s,ai,aj,ak⟩:=al a c m;clear A;go_wp2_with fail;refine (aBK x (k+1) (k+1) g a wr f.perm af).mono ?_;rintro i a2 ⟨rfl,o⟩;have t:=f.b (kb o);obtain ⟨ao,l⟩:=t.a;have H:=l.cell 0;have I:=l.cell 1;have ac:=l.lt;have R:=Q.below o;clear v w o l;go_wp2_with fail;refine (oO t.walk ai a3 (by rw [J];omega)).mono ?_;rintro i av ⟨rfl,D⟩;rw [aj];have am:=R.trans D;clear H I D;go_wp2_with fail;go_roundw
   case rel=>exact ⟨s,c,u+1,ak,by omega,rfl,by go_num,am⟩
   case measure=>exact zr
def aEb (e:World) (g:Nat) (b a:List UInt8) (i:Ending) (f:World):Prop:=
 ∃c d,i=.returned (.slice c (gZ b a).length d)/\Made f e.heap.size 3 1 c (gZ b a).length d ((gZ b a).map sv)/\VB g e f
def aNJ {Bw gl rate t A0 m0} (G) {B ss} (c) (H:iV ss=c) {w} (a2:TpAt w Bw gl t rate) (R:Rd w B 1 A0 m0 (ss.map slV)) (T:∀D∈ss,Rd w B 1 D.A D.n (D.l.map bv)) (hB:B<=w.heap.size) (aa:m0<=1000000) (af:c.length<=1000000):
 Calls prog 20 #[gl,.slice A0 m0 G] w (aEb w Bw t c):=by
 obtain ⟨ak,a4,s,ai,aj⟩:=info_parts gI;obtain ⟨e,gk,a1,al,k,M,ag,s,ac⟩:=a2;have Z:=s;clear s;have p:e.length=t.length+1:=by rw [k.len,aO]
 have q:=vS (n:=t.length) G H rfl M.ai (by rw [bY,p]) oM (dR (eX t)) R T hB aa af;rw [aEv k (fA t)] at q;have y:=aEp k c;have N:=aNR (aG t) true (dQ c);rw [aO] at N;have I:Nq (aG t) false (dQ c)<=Nq (aG t) true (dQ c):=by rw [aHx];omega
 have o:(gZ t c).length=Nq (aG t) true (dQ c) - Nq (aG t) false (dQ c):=by rw [<-(aEu k c).length_eq,zAj,zAw,p];omega
 obtain ⟨a,x⟩:=eqx (Nq (aG t) false (dQ c));obtain ⟨d,v⟩:=eqx (Nq (aG t) true (dQ c));obtain ⟨au,Q⟩:=eqx (gZ t c);unfold aEb;rw [x,v] at q y o;rw [x] at I;rw [v] at N I;rw [Q] at y o⊢;clear R T x v Q H;go_enter func20,ntmps20;go_wp2_with fail;refine q.mono ?_;rintro m w1 ⟨rfl,ah⟩;clear q;go_wp2_with fail;go_loopw [7,8] (λam C wr=>∃b:Nat,b<=d - a/\C=.int .i64 (a+b:Nat)/\wr.ownsRow w.heap.size 3 1 am b (((e.drop a).take b).map sv)/\VB Bw w wr) (λ_ C _=>d -(intOf C).toNat)
 case atStart=>exact ⟨0,zAp _,by simp,ki _ _ _ _,ah⟩
 case round=>
  obtain ⟨b,aq,rfl,j,r⟩:=hrel;by_cases a7:b < d - a
  .have a9:((a+b:Nat):Int) < d:=oM;have a5:a+b < e.length:=(by rw [p];omega);obtain ⟨u,W⟩:∃u,e[a+b]?=some u:=⟨_,zAa a5⟩;have ad:(e.drop a).take (b+1)=(e.drop a).take b++ [u]:=(by rw [zAv,zBt,W];rfl);have a6:=M.b r.1;go_wp2_with fail;refine (aDZ Bw gl gk a1 rate t e al (a+b) u wr a6 ag Z k ac W).mono ?_;rintro m an ⟨rfl,z⟩;have V:=r.trans z;have g:=z.1.own j dC dC;have U:=V.1.size;clear z;go_wp2_with (at_builtin;refine bP _ rfl (.tmp 21) (.tmp 25) _ rfl w.heap.size 3 ak (.int .i64 0) 1 8 underlying27 a4 s ai aj rfl dC _ b _ rfl g rfl rfl (by simp [Value.oneCell']) zx oM U ?_;intro av Y ae K ar a3);have i:=aX (kg w.heap.size an) g K U;have A:=VB.grow V i;clear i K a3;go_roundw
   case rel=>exact ⟨b+1,by omega,by go_num,by rw [ad,zAz];exact ae,A⟩
   case measure=>exact zr
  .obtain rfl:b=d - a:=oM;have a9:¬((a+(d - a):Nat):Int) < d:=oM;have O:((e.drop a).take (d - a)).map sv=(((e.drop a).take (d - a)).map λX:Nat=>(X:Int)).map (Value.int .i64):=(by rw [zCh];rfl);rw [O] at j;obtain ⟨E,F,rfl,S⟩:=aFt j (by rw [zBc,zAj,zAw,p];omega) oM;have P:=j;rw [y] at S;have a8:∀f,(Value.slice E (d - a) F).ownBlock=some f->w.heap.size<=f:=λf J=>(P.lt f J).1;clear j P a7 O;go_wp2_with fail;refine S.mono ?_;rintro m Y ⟨rfl,g,L⟩;have i:Below w.heap.size wr Y:=L.e r.1.size (λf J m=>by have:=a8 f m;omega);have A:=VB.grow r i;rw [zCh] at g;obtain ⟨ao,ap,a0,ab⟩:=aR g;cases a0;clear g L i;go_wp2_with fail;go_ret;exact ⟨E,F,by rw [o];rfl,by rw [o];exact ab,A⟩
def TxtAt (e:World) (c d:Nat) (a:List UInt8):Prop:=∃b,IsSuf (aG a) b/\LvW e c d (aH (aG a) b)/\a.length<=895
def TxtAt.b {d w' a b c} (e:TxtAt d a b c) (j:Vis d w'):TxtAt w' a b c:=by
 obtain ⟨k,f,g,i⟩:=e;exact ⟨k,f,g.b j,i⟩
def TxtAt.mono {c B B' a b} (d:TxtAt c B a b) (hB:B'<=B):TxtAt c B' a b:=by
 obtain ⟨m,e,⟨gk,j,k,l,f,i⟩,g⟩:=d;exact ⟨m,e,⟨gk,j,k,l,f,i.mono hB⟩,g⟩
def TxtAt.le {f b c a} (d:TxtAt f b c a):a.length<=895:=by
 obtain ⟨j,g,i,e⟩:=d;exact e
def aDb {a b} (c:IsSuf (aG a) b):(aH (aG a) b).length=a.length+1:=by rw [bY,c.len,aO]
def aDz {Bw gl t A0 m0} (c) {B ss} (a) (i:iV ss=a) {w} (f:TxtAt w Bw gl t) (m:Rd w B 1 A0 m0 (ss.map slV)) (o:∀b∈ss,Rd w B 1 b.A b.n (b.l.map bv)) (hB:B<=w.heap.size) (j:m0<=1000000) (k:a.length<=1000000):
 Calls prog 19 #[gl,.slice A0 m0 c] w λe p=>e=.returned (.int .i64 (occ (aG t) (dQ a):Nat))/\VB Bw w p:=by
 obtain ⟨r,d,g,q⟩:=f;have:=aBR c i rfl g (aDb d) oM (dR (eX t)) m o hB j k;rw [aJk d] at this;exact this
def aO1 {m:Option Addr} {e d a:Nat} (j:Nat) {O:Nat} {g:List Nat} {b:World} (G:Rd b O 1 m e (g.map sv)) (hB:O<=b.heap.size) (ao:e<=d) (v:a<=e) (a0:e<=1000):
 Calls prog 68 #[.slice m e d,(a:Int),(j:Int)] b λC a4=>∃N Q,C=.returned (.slice N (e+1) Q)/\Made a4 b.heap.size 3 1 N (e+1) Q ((g.take a++j::g.drop a).map sv)/\Below b.heap.size b a4:=by
 obtain ⟨K,x,I,z,J⟩:=info_parts gI;have a3:∀b,(sizeOf 3).run prog b=.ok 1 b:=λb=>by simp [sizeOf,typeInfo,x,z]
 have U:=G.aj (cap:=d) v;have V:=G.cut (cap:=d) v ao;rw [zBl,<-zDw] at U;rw [zBl,<-zEb] at V;have aC:=jH (P:=prog) 27 3 1 underlying27 a3 m e d a oM;have L:=iC (P:=prog) 27 3 1 underlying27 a3 m e d a v;have a7:=L;clear G L;go_enter func68,ntmps68;go_wp2_with (at_builtin;refine bE _ rfl (.tmp 8) (.tmp 11) _ rfl b.heap.size 3 K (.int .i64 0) 1 8 underlying27 x I z J rfl dC (.slice (some b.heap.size) 0 0) 0 [] rfl (kX b 3 1) b.heap.size (dH m d 0 1) a d _ rfl ((U.mono hB).alloc nL _) (tD _) zx oM zs ?_;intro aD w1 F W ai);have R:=aX ((kg b.heap.size b).alloc nL _) (kX b 3 1) W zs;rw [zBi,zDH] at F;obtain ⟨n,o,rfl,Z⟩:=aR F;have Y:∀c,(Value.slice n a o).ownBlock=some c->b.heap.size<=c/\c < w1.heap.size:=λc T=>Z.own.lt c T;have a2:=R.size;clear W ai Z;go_wp2_with fail;refine wp_region_any kR<|cQ 7 [13,14,15,16,17,18,19] (λc=>(Value.slice n a o).ownBlock=some c) 3 [3] (λM B=>B.ownsRow b.heap.size 3 1 M (a+1) ((g.take a).map sv++ [.int .i64 j])) [is (.slice n a o),is (j:Int),pT (λc=>(Value.slice n a o).ownBlock=some c) 3 #[(j:Int)] λD=>.slice (some ⟨D,0,none⟩) 1 1,cO,is (.slice m e d),is (a:Int),is (.slice (dH m d a 1) (e - a) (d - a))] _ rfl dC kR kR kR (F) (λB aH t _ am=>aP t am) (λ_ _ _ af a=>aP af a) tA3 ?_ ?_
 .refine bB<|pH3 7 (.slice n a o)<|pH3 2 (.int .i64 j)<|sC3 (λ_ r k _ _ _ _ l _ _ _ q=>?_) ?_
  .replace k:Keep (λc=>(Value.slice n a o).ownBlock=some c) w1 r:=kD k;have aw:_=_:=l 1 14 kR rfl;go_simp;exact q _ _ (aE (bR.alloc nL _)) ⟨_,rfl,kd _ _ _,λt=>by have:=(Y _ t).2;have:=k.size;omega⟩
  refine sC3 (λw r k ag _ _ _ l _ _ ah q=>?_) ?_;replace k:Keep (λc=>(Value.slice n a o).ownBlock=some c) w1 r:=kD k;have aq:=ag rfl;have aa:_=_:=l 0 13 kR rfl;have av:(pT (λc=>(Value.slice n a o).ownBlock=some c) 3 #[(j:Int)] λD=>.slice (some ⟨D,0,none⟩) 1 1) (w (.tmp 15)) r:=l 2 15 kR rfl;obtain ⟨ae,ab,ak,aA⟩:=av;subst ah;have au:b.heap.size<=r.heap.size:=zAk a2 k.size;refine fK r (.tmp 13) (.tmp 15) _ rfl b.heap.size 3 K (.int .i64 0) 1 8 underlying27 x I z J rfl dC (.slice n a o) a ((g.take a).map sv) aa aq r.heap.size (some ⟨ae,0,none⟩) 1 1 [.int .i64 j] ab (aGt ak) (by simp [Value.oneCell']) zx oM au ?_;intro aF s ap u az;exact q _ _ (aW ⟨u.os,u.tape,u.output,u.size,λa v a0=>u.block a v (λC=>a0 C.symm)⟩) ap;refine pH3 0 (.slice m e d)<|pH3 1 (.int .i64 a)<|sC3 (λ_ _ _ _ _ _ _ l _ _ _ q=>?_) ?_
  .have ax:_=_:=l 4 17 kR rfl;have ay:_=_:=l 5 18 kR rfl;have L:=a7;go_simp;exact kq q rfl
  exact aB
 .intro w s p k l;replace k:Keep (λc=>(Value.slice n a o).ownBlock=some c) w1 s:=kD k;have A:(λM B=>B.ownsRow b.heap.size 3 1 M (a+1) ((g.take a).map sv++ [.int .i64 j])) (w (.tmp 16)) s:=l 3 16 dC rfl;have ad:w (.tmp 19)=.slice (dH m d a 1) (e - a) (d - a):=l 6 19 dC rfl;simp only [zqq];rw [ad];clear l;obtain ⟨a5,a8,ac,_,_⟩:=aZ A;rw [ac] at A⊢;have E:Below b.heap.size b s:=R.trans (k.e a2 (λc T t=>by have:=(Y _ t).1;omega));have ar:=(V.mono hB).below E;have H:=E.size;change wpAny prog Region.Mode.any _ _ (2+p) (bT 7 9) _ s;rw [show 2+p=p+1+1 by omega];refine aY (f:=p+1) (i:=7) kR ?_;refine bJ rfl rfl<|fK s (.tmp 16) (.tmp 19) _ rfl b.heap.size 3 K (.int .i64 0) 1 8 underlying27 x I z J rfl dC (.slice a5 (a+1) a8) (a+1) ((g.take a).map sv++ [.int .i64 j]) rfl A s.heap.size (dH m d a 1) (e - a) (d - a) ((g.drop a).map sv) rfl (ar.mono H) (tD _) zx oM H ?_;intro aG aI y X aj;have al:=aX E A X H;have a1:a+1+(e - a)=e+1:=oM;rw [a1] at y;have S:(g.take a).map sv++ [.int .i64 j]++(g.drop a).map sv=(g.take a++j::g.drop a).map sv:=(by simp [sv]);rw [S] at y;obtain ⟨a6,a9,rfl,an⟩:=aR y;clear y X aj S a1;refine aY (f:=p) (i:=8) kR ?_;refine bJ rfl rfl ?_;generalize q:wpAny prog _ _ _ p _=K5;go_simp;subst q;refine bG kR ?_;go_wp2;go_ret;exact ⟨a6,a9,rfl,an,al⟩
structure Part (l:List Nat) (x j:Nat) (L:List Nat):Prop where
 perm:L.Perm (List.range' x j)
 B:L.Pairwise (sufLt l)
def Part.len {d a e b} (c:Part d e b a):a.length=b:=by simpa using c.perm.length_eq
def Part.mem {g c b d a} (e:Part g b d c) (f:a∈c):b<=a/\a < b+d:=by
 have:=e.perm.mem_iff.1 f;rw [List.mem_range'_1] at this;exact this
def Part.rel {d a j i c b} (e:Part d j i a) (f:c < b) (g:b < a.length):sufLt d (a[c]' oM) a[b]:=zAr.1 e.B c b oM g f
def Part.put {d b e j c} (k:Part d (e+1) j b) (t:e < d.length) (u:e+1+j<=d.length) (v:c<=b.length) (r:∀a (g:a < b.length),a < c->sufLt d b[a] e) (s:∀a (g:a < b.length),c<=a->¬sufLt d b[a] e):
 Part d e (j+1) (b.take c++e::b.drop c):=by
 constructor;rw [List.range'_succ];refine zFD.trans (List.Perm.cons e ?_);rw [zAu];exact k.perm;have i:=k.B;rw [<-zAu c b,zEx] at i;rw [zEx];refine ⟨i.1,zEf.2 ⟨λo f=>?_,i.2.1⟩,λq p o f=>?_⟩;obtain ⟨a,g,rfl⟩:=zBo.1 f;rw [zAw] at g;rw [zED];have w:=k.mem (zBj (l:=b) (n:=c+a) oM);rcases sufLt.dk t (by omega:b[c+a]' oM < d.length) oM with m | m;exact m;exact absurd m (s (c+a) oM oM);rcases zDf.1 f with rfl | f;obtain ⟨a,g,rfl⟩:=zBo.1 p;rw [zAj] at g;rw [zEC];exact r a oM oM;exact i.2.2 q p o f
def yK (i:List UInt8) (e:Nat) (a:World) (g:Ending) (f:World):Prop:=∃b d c,g=.returned (.slice b (e+1) d)/\IsSuf (aG i) c/\Made f a.heap.size 3 1 b (e+1) d (c.map sv)/\Below a.heap.size a f
def qQ {i b} (p) (G:i.length=b) (an:b<=900):
 Calls prog 26 #[.string ⟨i.toArray⟩] p (yK i b p):=by
 have ar:(⟨i.toArray⟩:ByteArray).size=b:=(rW i).trans G;have D:(aG i).length=b+1:=by rw [aO,G]
 go_enter func26,ntmps26;go_wp2_with fail;go_loopw [3,4] (λa9 I wr=>∃(a:Nat) (e:List Nat) (t:Option Addr) (v:Nat),a<=b+1/\a9=.slice t a v/\I=.int .i64 ((b:Int) -a)/\Part (aG i) (b+1 - a) a e/\Made wr p.heap.size 3 1 t a v (e.map sv)/\Below p.heap.size p wr) (λ_ I _=>(intOf I+1).toNat)
 case atStart=>exact ⟨0, [],none,0,by omega,rfl,by simp,⟨by simp,List.Pairwise.nil⟩,⟨ki _ _ _ _,Rd.nil _ _ _ _,zAs _,by unfold maxLen;omega⟩,kg _ _⟩
 case round=>
  obtain ⟨a,e,t,v,ah,rfl,rfl,k,E,x⟩:=hrel;by_cases a3:a<=b
  .obtain ⟨j,o⟩:=eqx (b - a);rw [show b+1 - a=j+1 by omega] at k;have T:(b:Int) -a=j:=oM;rw [T];have ao:(0:Int)<=j:=oM;have B:=k.len;obtain ⟨m,Z⟩:∃m,m=wr:=⟨_,rfl⟩;subst Z;go_wp2_with fail;go_loopw [5,6] (λA u wr=>∃c f l:Nat,c<=f/\f<=a/\A=.int .i64 c/\u=.int .i64 f/\(∀g (n:g < e.length),g < c->sufLt (aG i) e[g] j)/\(∀g (n:g < e.length),f<=g->¬sufLt (aG i) e[g] j)/\wr=m.drewN l) (λA u _=>(intOf u - intOf A).toNat)
   case atStart=>exact ⟨0,a,0,by omega,by omega,rfl,rfl,λg n w=>by omega,λg n w=>by have:=B;omega,rfl⟩
   case round=>
    obtain ⟨c,f,l,aj,C,rfl,rfl,L,w,rfl⟩:=hrel;by_cases a2:c < f
    .obtain ⟨d,O⟩:=eqx ((c+f)/ 2);have ak:(c:Int) < f:=oM;have ac:IntKind.i64.wrap (c+f)=(c:Int)+f:=zu;have ad:((c:Int)+f).tdiv 2=(d:Int):=(by rw [<-O];exact (Int.ofNat_tdiv (c+f) 2).symm);have ae:IntKind.i64.wrap d=(d:Int):=zu;have Q:d < a:=oM;have F:d < e.length:=(by rw [B];exact Q);obtain ⟨u,ap,aq,Y,ag,S,z⟩:=(E.rd.drewN l).get Q;subst Y;rw [zAf,zAa F] at S;cases S;unfold sv at z;have a5:=k.mem (zBj F);obtain ⟨aa,H⟩:=eqx (e[d]);rw [H] at z a5;have ab:=z;clear z;have am:c<=d:=oM;have al:d < f:=oM;clear O;go_wp2_with fail;refine (aLo aa j _ G oM (zj o) (zj o) oM).mono ?_;rintro W V ⟨a8,rfl,R,U,rfl⟩;cases a8 with
     | true=>
      go_wp2_with fail;go_roundw
      case rel=>refine ⟨d+1,f,l+U,by omega,C,by go_num,rfl,λg n a1=>?_,w,rfl⟩;have s:sufLt (aG i) e[d] j:=(by rw [H];exact R.1 (by first | rfl | trivial));rcases zBe g d with q | q;exact (k.rel q F).trans s;obtain rfl:g=d:=oM;exact s
      case measure=>exact zr
     | false=>
      go_wp2_with fail;go_roundw
      case rel=>refine ⟨c,d,l+U,by omega,by omega,rfl,by go_num,L,λg n a1 M=>?_,rfl⟩;have s:¬sufLt (aG i) e[d] j:=(by rw [H];intro X;have:=R.2 X;cases this);rcases zBe d g with q | q;exact s ((k.rel q n).trans M);obtain rfl:g=d:=oM;exact s M
      case measure=>exact zr
    .obtain rfl:c=f:=oM;have a6:=k.put (by rw [D];have:=o;omega) (by rw [D];have:=o;omega) (by rw [B];exact C) L w;have y:Below m.heap.size m (m.drewN l):=km bR l;have P:=E.below y;clear a2;go_wp2_with fail;refine (aO1 j P.rd nL P.cap C oM).mono ?_;rintro W V ⟨J,K,rfl,r,N⟩;have a0:=x.trans ((y.trans (N.mono y.size)).mono x.size);have a4:Made V p.heap.size 3 1 J (a+1) K ((e.take c++j::e.drop c).map sv):=⟨cG r.own (zAk x.size y.size),r.rd,r.cap,r.max⟩;clear r N;have af:IntKind.i64.wrap (j - 1)=(b:Int) -(a+1:Nat):=(by rw [wI0];have:=T;omega);go_wp2_with fail;go_roundw
     case rel=>exact ⟨a+1,_,J,K,by omega,rfl,rfl,by rw [show b+1 -(a+1)=j by have:=o;omega];exact a6,a4,a0⟩
     case measure=>have:=o;simp [intOf];omega
  .obtain rfl:a=b+1:=oM;have ai:¬(0:Int)<=b -(b+1:Nat):=oM
   have a7:IsSuf (aG i) e:=⟨by
    have:=k.perm;rw [show b+1 -(b+1)=0 by omega] at this;rw [D,List.range_eq_range'];exact this,k.B⟩
   clear k a3;go_wp2_with fail;go_ret;exact ⟨t,v,e,rfl,a7,E,x⟩
end Go.Proofs.YtlghmcogeipojaaGreatDoor
