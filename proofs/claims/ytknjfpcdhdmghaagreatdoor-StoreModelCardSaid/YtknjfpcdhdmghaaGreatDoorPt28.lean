/- Lemmas of the walk. Conditions: each its own. -/
import Derived.Test.YtknjfpcdhdmghaaGreatDoorPt24
import Derived.Test.YtknjfpcdhdmghaaGreatDoorPt25
import Derived.Test.YtknjfpcdhdmghaaGreatDoorPt26
set_option linter.all false
set_option maxRecDepth 100000
set_option maxHeartbeats 2000000
open Go.Proofs.Tryz
namespace Go.Proofs.YtknjfpcdhdmghaaGreatDoor
section
open Go.RowKit Go.Shelf
open Go.Sort (Holds)
def aBM {n gp r E s a} (f g) {b} (e:PRd b n gp r E s a) (y:f < a.length) (z:g < a.length):
 Calls prog 177 #[(f:Int),(g:Int),n] b λi w'=>i=.returned (.int .i64 (Lib.compareInt ((aF a f:Nat):Int) ((aF a g:Nat):Int)))/\∃c,w'=b.drewN c:=by
 obtain ⟨K,H,O,rfl,t,u⟩:=e.at y;obtain ⟨M,b1,Q,d,v,x⟩:=e.at z;injection d with d;injection d with d e2;subst d e2;have I:=e.box;have J:=e.sl;obtain ⟨l,p⟩:=eqx (aF a f);obtain ⟨m,q⟩:=eqx (aF a g);rw [p] at t⊢;rw [q] at v⊢;obtain ⟨G,k⟩:=eqx (Lib.compareInt (l:Int) (m:Int));have D:∀c:Nat,Calls prog 155 #[(l:Int),(m:Int)] (b.drewN c) λi w'=>i=.returned (.int .i64 G)/\∃F,w'=b.drewN F:=λc=>by have o:=AnyG.cmp_Compare_int shCmp (l:Int) (m:Int) (b.drewN c);rw [k] at o;exact Calls.mono o λ_ _ ⟨A,C⟩=>⟨A,c,C⟩
 rw [k];clear e u x p q k;go_enter func177,ntmps177;go_wp2_with fail;go_quiet ((with_reducible exact D _));go_wp2_with fail;go_ret;exact ⟨rfl,_,rfl⟩
def aMZ {b g f d} (a:mvR b g f=mvR b g d):f=d:=by
 unfold mvR inR bN at a;by_cases e:f=b
 .by_cases c:d=b;omega
  .rw [zBx e,zBw c] at a;split at a <;> split at a <;> omega
 .by_cases c:d=b
  .rw [zBw e,zBx c] at a;split at a <;> split at a <;> omega
  .rw [zBw e,zBw c] at a;split at a <;> split at a <;> split at a <;> split at a <;> omega
def aOc {a c b R} (d:a < R) (ht:c < R) (e:b < R):mvR a c b < R:=by
 unfold mvR inR bN;split;exact ht
 .split <;> split <;> omega
def PermX.drewN {w b gp d k l m i R P f a g c} (e:PermX w b gp d k l m i R P f a g c) (n):PermX (w.drewN n) b gp d k l m i R P f a g c:=
 { e with at_:=e.at_.below (km bR _)}
def PermX.B {w w' s gp u y g z x R P n o r v t} (i:PermX w s gp u y g z x R P n r v t) (l:o.Perm n) (f:Keep (λc=>g.ownBlock=some c) w w') (D:w'.ownsRow 0 3 1 g n.length (o.map sv)):PermX w' s gp u y g z x R P o r v t:=by
 have a:=i.at_;have k:∀c p d,Bk w c p d->p≠3->¬(g.ownBlock=some c):=λc p d b ht e=>by obtain ⟨F,A⟩:=fX a.t e;exact ht (aU b A).1
 refine { i with at_:=⟨f.d a.a (k _ _ _ a.a dC),aC a.u λc d _ b=>f.d b (k _ _ _ b dC),by rw [l.length_eq];exact D,f.d a.V (k _ _ _ a.V dC),aC a.F λc d _ b=>f.d b (k _ _ _ b dC),aC a.M λc d b C=>f.d C λe=>?_,a.apart,λq E=>a.lt q (l.subset E),a.lo⟩,nd:=l.nodup_iff.2 i.nd,tkk:=λq=>(i.tkk q).trans l.mem_iff.symm };rcases a.apart with m | m
 .rw [m] at e;cases e
 exact m (e.trans b.symm)
def aDQ {x gp W s R P a5 M a6 a4 b d a3 V w} (q:PermX w x gp W a5 M a6 a4 R P b d a3 V) (C:Bk w s 102 #[gp]) (al:b≠ []) (ah:∀u∈b,∀v∈b,aF d u=aF d v->u=v):
 ∃O p,M=.slice O b.length p/\Calls prog 100 #[.slice O b.length p,.func (.func 177) #[] #[s]] w λm w'=>m=.returned (.tuple #[])/\∃I,I.Perm b/\I.Pairwise (λe g=>aF d e < aF d g)/\PermX w' x gp W a5 M a6 a4 R P I d a3 V/\Keep x w w':=by
 have H:0 < b.length:=List.length_pos_iff.2 al;have e:=q.at_;obtain ⟨l,p,m,_,G⟩:=kj e.t H;refine ⟨_,p,m,?_⟩;have Z:=e.t;rw [m] at Z;obtain ⟨av,F,ae,ak,aj,ax,ac⟩:=wL Z H;obtain ⟨k0,ai⟩:∃i,i∈b:=zFe H;obtain ⟨a,E⟩:∃a,d.length=a+1:=⟨d.length - 1,by have:=e.lt k0 ai;omega⟩;have Y:∀i∈b,i < a+1:=λi n=>by rw [<-E];exact e.lt i n
 have t:(gN a b).size=b.length:=by simp [gN]
 have aa:=tC (c:=a) F Y (iK zs oM ac);obtain ⟨a7,aq,a8,A,az⟩:=e.cp (C.cell 0) (kg w.heap.size w);have ad:CmpReads prog 177 #[s] (fS a) (cfK a (aF d)) l 0 (gN a b).size w:=λJ o z ay u v=>by
  have i:=kV (enc:=fS a) (w:=w) G 0 J z o;have D:∀g K y,Bk w g K y->K≠3->¬(g=l):=λg K y ab ht r=>by subst r;exact ht (aU ab F).1
  have an:PRd (sortWorld (fS a) w l 0 J z o) s gp a7 aq a8 d:=by refine ⟨((i.d C (D _ _ _ C dC)).cell 0).trans rfl,((i.d e.a (D _ _ _ e.a dC)).cell 1).trans (by rw [A];rfl),?_⟩;have X:=aC (w':=sortWorld (fS a) w l 0 J z o) e.u λg y _ n=>i.d n (D _ _ _ n dC);rw [A] at X;have a9:=aZ e.u;obtain ⟨ar,au,U,_⟩:=a9;rw [A] at U;injection U with e81 e82 e83;subst e82;exact Rd.s X
  exact aBM u.val v.val an (by rw [E];exact u.isLt) (by rw [E];exact v.isLt)
 have a2:=Any.slices_SortFunc shSort (fS a) (oC a) (cfK a (aF d)) (aMx a (aF d)) 177 #[s] l 0 p (gN a b) w (enters_of func177 kR rfl) ad.lays aa G (by rw [t];have:=iS q.nd e.lt;have:=q.sz;omega);rw [t] at a2;refine a2.mono ?_;rintro aw w' ⟨rfl,Q,nq,o,a1,ap,rfl⟩;obtain ⟨a0,ao⟩:=aEo (f:=aF d) Y (by rw [t];exact a1) (by rw [t];exact ap) q.nd ah;have af:Q.size=b.length:=by rw [a1.1,t]
 have n:=kV (enc:=fS a) (w:=w) G 0 nq Q o;have am:=aKn (base:=0) (k:=nq) (os:=o) af F (zAp _) ak aj ae;have ag:x l:=q.fo l (by rw [m];rfl);exact ⟨rfl,_,a0,ao,q.B a0 (n.mono λg _ r=>by rw [m,show g=l from r];rfl) (by rw [m];exact am),n.mono λg _ r=>by rw [show g=l from r];exact ag⟩
def iB {F gp R P} (d) {z1 pr w} (aD:PermE w F gp R P pr) (aI:d < R) (aJ:z1 < R) (aV:R<=100000) (aU:P<=100000) (aj:pr≠ []):
 Calls prog 119 #[gp,(d:Int),(z1:Int)] w λg w'=>g=.returned (.int .i64 0)/\(∃pr',pr'.Perm (pr.map λf=>(mvR d z1 f.1,f.2))/\PermE w' F gp R P pr')/\Keep F w w':=by
 obtain ⟨⟨I,D,Y,Z,X,e,b,W,H,m,rfl⟩,am,a9⟩:=aD;have v:=m.at_;have ai:e≠ []:=λg=>aj (by rw [g];rfl);have aW:=v.a.lt;have b0:decide ((d:Int) < 0)=false:=zs
 have b1:decide ((z1:Int) < 0)=false:=zs
 have b2:¬R<=d:=oM;have b3:¬R<=z1:=oM;have b4:¬(d:Int)>=R:=oM;have b5:¬(z1:Int)>=R:=oM;obtain ⟨w1,q⟩:=eqx (((w.alloc (.cells #[gp] 102)).alloc (.cells #[(d:Int)] 3)).alloc (.cells #[(z1:Int)] 3));have J:Below w.heap.size w w1:=by rw [<-q];exact ((bR.alloc nL _).alloc zs _).alloc zt _
 have y:Bk w1 w.heap.size 102 #[gp]:=by rw [<-q];exact ((kd w _ _).alloc _).alloc _
 have z:Bk w1 (w.heap.size+1) 3 #[(d:Int)]:=by rw [<-q];have:=(kd (w.alloc (.cells #[gp] 102)) 3 #[(d:Int)]).alloc (.cells #[(z1:Int)] 3);simpa using this
 have A:Bk w1 (w.heap.size+2) 3 #[(z1:Int)]:=by rw [<-q];have:=kd ((w.alloc (.cells #[gp] 102)).alloc (.cells #[(d:Int)] 3)) 3 #[(z1:Int)];simpa using this
 have x:PermX w1 F gp I D Y Z X R P e b W H:= { m with at_:=v.below J };have an:∀i,D.ownBlock=some i->i < w.heap.size:=λi o=>(v.u.lt i o).2;have aL:∀n,(w1.drewN n).cell? w.heap.size=some (.pointer (some gp)):=λn=>(y.cell 0).trans rfl;have aM:∀n,(w1.drewN n).cell? ⟨w.heap.size+1,0,none⟩=some (.int .i64 d):=λn=>(z.cell 0).trans rfl;have aN:∀n,(w1.drewN n).cell? ⟨w.heap.size+2,0,none⟩=some (.int .i64 z1):=λn=>(A.cell 0).trans rfl;have aP:w1.cell? w.heap.size=some (.pointer (some gp)):=(y.cell 0).trans rfl;have aQ:w1.cell? ⟨w.heap.size+1,0,none⟩=some (.int .i64 d):=(z.cell 0).trans rfl;have aR:w1.cell? ⟨w.heap.size+2,0,none⟩=some (.int .i64 z1):=(A.cell 0).trans rfl;have aO:w1.cell? ⟨gp,3,none⟩=some (.int .i64 R):=(x.at_.a.cell 3).trans rfl;have aX:=x.at_.a.lt;have a6:∀a,a∈e->aF b a < R/\aS b a < P:=λa k=>a9 (aF b a,aS b a) (zAy.2 ⟨a,k,rfl⟩);have ad:∀f∈e,∀r∈e,aF b f=aF b r->f=r:=λf aH r C g=>by have al:=zDm.1 am;obtain ⟨s,ac,rfl⟩:=zDR aH;obtain ⟨j,ae,rfl⟩:=zDR C;rcases zDD s j with l | l | l;have aE:aF b e[s] < aF b e[j]:=zAr.1 al s j ac ae l;omega;subst l;rfl;have aE:aF b e[j] < aF b e[s]:=zAr.1 al j s ae ac l;omega
 obtain ⟨c,a0,ax,aq,ar,au,av,aA,G⟩:=hqq9 x a6 ad J y z A q an;have az:=lhd ai;clear m v am a9 x a6 ad J y z A q an ai aj;go_enter func119,ntmps119;go_wp2_with fail;rw [aA.out];go_quiet (fail)
 rename_i nq
 have aZ:∀(a5:Fn) (first a3:Array Value) (w:World),(Instr.makeFunc a5 first a3).run prog w=.ok (.func a5 first a3) w:=λ_ _ _ _=>rfl;go_wp2_with fail;have p:=c.drewN nq;have aG:=iS p.nd p.at_.lt;refine (yV p.at_ p.nd (zj p.sz) (au.drewN nq) (λi o g=>by have:=G i o;omega) (av.drewN nq) (λi o g=>by have:=G i o;omega) (λa k=>by have:=a0 a k;omega)).mono ?_;rintro g t ⟨rfl,O,E,Q,M,a8⟩;have V:∀a,a∈e->aF E a=mvR d z1 (aF b a):=λa k=>(Prod.mk.inj (M a k)).1;have u:PermX t F gp I D Y Z X R P e E W H:=⟨a8,c.fp,c.fa,c.fl,c.fo,c.ft,c.ff,c.nd,by rw [Q];exact c.an,c.tkk,c.a8,c.am,by rw [Q];exact c.sz⟩;have K:Bk t w.heap.size 102 #[gp]:=O.d (ar.drewN nq) λg=>by have:=G _ g;omega
 have ag:Keep F w t:=(kF (km aq nq)).trans (O.mono λi _ o=>c.fl i o);obtain ⟨ap,aC,a4,aa⟩:=aDQ u K az (λf m r C g=>ax f m r C (aMZ (by rw [<-V f m,<-V r C,g])));have aB:t.cell? ⟨gp,2,none⟩=some (.slice ap e.length aC):=(u.at_.a.cell 2).trans (by rw [a4];rfl);have aT:t.cell? w.heap.size=some (.pointer (some gp)):=(K.cell 0).trans rfl;have aY:=u.at_.a.lt;obtain ⟨ay,a1,aw⟩:=hqq3 ag M aa;clear ag M aa u K O Q a8 V p aG aP aQ aR aL aM aN aO a4;go_wp2_with fail;refine aw.mono ?_;rintro g ao ⟨rfl,aK,U,ak,a7,af⟩;have ab:(∃pr',pr'.Perm ((e.map λa=>(aF b a,aS b a)).map λf=>(mvR d z1 f.1,f.2))/\PermE ao F gp R P pr')/\Keep F w ao:=by refine ⟨⟨_,?_,⟨I,D,Y,Z,X,aK,E,W,H,a7,rfl⟩,zDm.2 ak,λf m=>?_⟩,ay.trans af⟩;refine (U.map _).trans ?_;rw [zCh];refine List.Perm.of_eq (zFb λa k=>?_);exact a1 a k;obtain ⟨a,k,rfl⟩:=zAy.1 m;have ah:=U.subset k;have l:=a0 a ah;rw [a1 a ah];exact ⟨aOc aI aJ l.1,l.2⟩
 have a2:=lhd ab;clear ab a7 af U ak aB aT;go_wp2_with fail;go_ret;exact ⟨rfl,a2.1,a2.2⟩
end
section
open Go.RowKit Go.Shelf
def VisF.mono {F G w w'} (b:VisF F w w') (e:∀a,a < w.heap.size->F a->G a):VisF G w w':=⟨b.os,b.tape,b.output,b.size,λa c f=>b.block a c λd=>f (e a c d)⟩
def VisF.trans' {b d w w1 w'} (g:VisF b w w1) (l:VisF d w1 w') (k:∀a,a < w.heap.size->d a->b a):VisF b w w':=by
 have i:=VisF.trans (F:=λa=>b a∨w.heap.size<=a) (g.mono λa _ c=>.inl c) (l.mono λa _ f=>by
  by_cases e:a < w.heap.size;exact .inl (k a e f)
  .exact .inr oM)
 exact i.mono λa n c=>c.elim id λm=>by omega
structure LF (B:Nat) (w w':World) (own own':Nat->Nat):Prop where
 H:∀b,b < w.heap.size->own' b=own b
 b:VisF (λb=>own b≠0) w w'
 keep:Keep (λb=>B<=b) w w'
def LF.refl (B w own):LF B w w own own:=⟨λ_ _=>rfl,VisF.C (Vis.refl w),ke _ _⟩
def LF.trans {B w w1 w' own e own'} (a:LF B w w1 own e) (d:LF B w1 w' e own'):LF B w w' own own':=by
 have g:=a.keep.size;refine ⟨λb c=>(d.H b oM).trans (a.H b c),a.b.trans' d.b λb c f=>?_,a.keep.trans d.keep⟩;rw [<-a.H b c];exact f
def LF.i {B w w' own} (a:VB B w w'):LF B w w' own own:=⟨λ_ _=>rfl,VisF.C a.1,a.2⟩
structure LiveM (w:World) (B:Nat) (own:Nat->Nat) (gl gk gp rate:Nat) (mv:Int) (R P:Nat) (L T:List Nat) (pr:List (Nat×Nat)):Prop where
 a:Bk w gl 104 #[gk,gp,(rate:Int),(mv:Int)]
 x:own gl=3
 walk:WalkE w B own gk L T
 perm:PermE w (λb=>own b=1) gp R P pr
section
variable {w w' : World} {B : Nat} {own own' : Nat -> Nat} {gl gk gp rate : Nat} {mv : Int} {R P R' P' : Nat} {L T L' T' : List Nat} {pr pr' : List (Nat × Nat)}
def LiveM.q (b:LiveM w B own gl gk gp rate mv R P L T pr):∀a,own a≠0->B<=a/\a < w.heap.size:=b.walk.q
def LiveM.lo (a:LiveM w B own gl gk gp rate mv R P L T pr):B<=gl:=(a.q gl (by rw [a.x];decide)).1
def LiveM.gw (c:LiveM w B own gl gk gp rate mv R P L T pr):∃a b,Bk w gk 152 #[.pointer (some ⟨a,0,none⟩),.pointer (some ⟨b,0,none⟩)]/\WaveAt w B a L:=by
 obtain ⟨a,b,d,_,e,_⟩:=c.walk;exact ⟨a,b,d,e.at⟩
def LiveM.b (a:LiveM w B own gl gk gp rate mv R P L T pr) (b:Vis w w'):LiveM w' B own gl gk gp rate mv R P L T pr:=
 ⟨b.d a.a dC dC,a.x,a.walk.b b,a.perm.b b⟩
def LiveM.I (c:LiveM w B own gl gk gp rate mv R P L T pr) (f:WalkE w' B own' gk L' T') (a:Grew w w' own own'):LiveM w' B own' gl gk gp rate mv R P L' T' pr/\LF B w w' own own':=by
 have e:=c.q;refine ⟨⟨a.keep.d c.a (λd=>by have:=c.x;omega),by rw [a.H _ c.a.lt];exact c.x,f,(c.perm.keep a.keep λb d=>by omega).mono λb _ d=>?_⟩,a.H,VisF.O (a.keep.mono λb _ d=>by omega),a.keep.mono λb _ d=>(e b oM).1⟩;rw [a.H b (e b oM).2];exact d
def LiveM.S (c:LiveM w B own gl gk gp rate mv R P L T pr) (m:PermE w' (Gw (λa=>own a=1) w.heap.size) gp R' P' pr') (e:Keep (λa=>own a=1) w w'):LiveM w' B (eD own w.heap.size w'.heap.size 1) gl gk gp rate mv R' P' L T pr'/\LF B w w' own (eD own w.heap.size w'.heap.size 1):=by
 have g:=c.q;have k:∀a,a < w.heap.size->eD own w.heap.size w'.heap.size 1 a=own a:=λa i=>by unfold eD;rw [zBx i]
 have hB:B<=w.heap.size:=zk c.lo c.a.lt
 have o:=e.size;refine ⟨⟨e.d c.a (λb=>by have:=c.x;omega),by rw [k _ c.a.lt];exact c.x,(c.walk.m e λa b=>⟨by omega,by omega⟩).aq (λa i n=>?_) (λa d=>?_),m.mono λa i b=>?_⟩,k,VisF.O (e.mono λa _ b=>by omega),e.mono λa _ b=>(g a oM).1⟩;by_cases f:a < w.heap.size;exact k a f;have:=(g a oM).2;omega;unfold eD at d;by_cases f:a < w.heap.size;rw [zBx f] at d;have:=g a d;exact ⟨this.1,by omega⟩;rw [zBw f] at d;by_cases l:a < w'.heap.size;exact ⟨by omega,l⟩;rw [zBw l] at d;exact absurd rfl d
 .rcases b with b | b;rw [k a (g a oM).2];exact b
  .unfold eD;rw [zBw oM,zBx i]
def LiveM.ah (c:LiveM w B own gl gk gp rate mv R P L T pr) (f):LiveM (w.setCell ⟨gl,3,none⟩ (.int .i64 f)) B own gl gk gp rate f R P L T pr/\LF B w (w.setCell ⟨gl,3,none⟩ (.int .i64 f)) own own:=by
 have e:Keep (λa=>a=gl) w (w.setCell ⟨gl,3,none⟩ (.int .i64 f)):=ka (F:=λa=>a=gl) (ke _ _) (p:=⟨gl,3,none⟩) (.inl rfl) _;have i:=c.x;refine ⟨⟨c.a.set 3 _,c.x,c.walk.m e λa b=>?_,c.perm.keep e λa b g=>?_⟩,λ_ _=>rfl,VisF.O (e.mono λa _ b=>?_),e.mono λa _ b=>?_⟩;have g:a=gl:=b;subst g;exact ⟨by omega,by omega⟩;have d:a=gl:=g;subst d;omega;have d:a=gl:=b;subst d;show own a≠0;omega;have d:a=gl:=b;subst d;exact c.lo
def LiveM.len (b:LiveM w B own gl gk gp rate mv R P L T pr):LvW w B gl L∨¬T.Perm L:=by
 by_cases a:T.Perm L;exact .inl ⟨gk,_,_,_,b.a,b.walk.at a⟩;exact .inr a
def LiveM.ad (g:LiveM w B own gl gk gp rate mv R P L T pr):PermR w gp R P pr:=by
 obtain ⟨⟨f,n,o,p,m,k,d,l,e,a,b⟩,c,q⟩:=g.perm;rw [b] at c;have i:=zDm.1 c;have r:=iS a.nd a.at_.lt;exact ⟨0,f,n,o,p,m,k,d,l,e,a.at_,i,a.sz,by have:=a.sz;omega,b⟩
def LiveM.g (a:LiveM w B own gl gk gp rate mv R R L T pr) (b:T.Perm L):LiveG w B gl gk gp rate R L pr:=⟨⟨mv,a.a⟩,a.walk.at b,a.ad⟩
end
section
variable {w : World} {B : Nat} {own : Nat -> Nat} {gl gk gp rate : Nat} {mv : Int} {R P : Nat} {L T : List Nat} {pr : List (Nat × Nat)}
def zN {i s:Nat} (a:LiveM w B own gl gk gp rate mv R P L T pr) (e:L[i]?=some s) (d:∀m∈L,m < 257) (k:L.length<=1000) (g:T.length<=1000):
 Calls prog 117 #[gl,(i:Int)] w λc w'=>c=.returned (.int .i64 (uL L T s i:Nat))/\VB B w w':=by
 have b:=sO a.walk.dg e d k g;have n:=a.a.cell 0;obtain ⟨o,f⟩:=eqx (uL L T s i);rw [f] at b⊢;clear a e d f;go_enter func117,ntmps117;go_wp2_with fail;refine b.mono ?_;rintro c w' ⟨rfl,l⟩;clear b;go_wp2_with fail;go_ret;exact ⟨rfl,l⟩
def qT (b:Nat) (w) (gl:Nat):
 Calls prog 106 #[gl,o0,(b:Int)] w λa w'=>a=.returned (.int .i64 (-1))/\w=w':=by
 go_enter func106,ntmps106;go_wp2_with fail;go_ret;exact ⟨rfl,rfl⟩
def tR (b:Nat) {a e:Nat} (c:LiveM w B own gl gk gp rate mv R P L T pr) (q:0 < b) (i:L[a]?=some e) (g:∀o∈L,o < 257) (m:L.length<=1000) (l:T.length<=1000):
 Calls prog 106 #[gl,(b:Int),(a:Int)] w λf w'=>f=.returned (.int .i64 (uL L T e a:Nat))/\VB B w w':=by
 have d:=sO c.walk.dg i g m l;have p:=c.a.cell 0;have r:((b:Int)==0)=false:=by rw [zCb];omega
 obtain ⟨s,k⟩:=eqx (uL L T e a);rw [k] at d⊢;clear c i g k;go_enter func106,ntmps106;go_wp2_with fail;refine d.mono ?_;rintro f w' ⟨rfl,n⟩;clear d;go_wp2_with fail;go_ret;exact ⟨rfl,n⟩
end
def inI (a b:Int):Int:=if a>=b then a+1 else a
def aC4 (a b:Int):Int:=if a > b then a - 1 else a
def zH (b a:Nat):inI (b:Int) (a:Int)=((inR b a:Nat):Int):=by
 unfold inI inR;split <;> split <;> omega
def mX (b a:Nat):aC4 (b:Int) (a:Int)=((bN b a:Nat):Int):=by
 unfold aC4 bN;split <;> split <;> omega
def aH0 (a:Nat):inI (-1) (a:Int)=-1:=by unfold inI;rw [zBw oM]
def aEK (a:Nat):aC4 (-1) (a:Int)=-1:=by unfold aC4;rw [zBw oM]
def zO {r} (a w) (e:-1000000<=r/\r<=1000000):
 Calls prog 120 #[(r:Int),(a:Int)] w λc w'=>c=.returned (.int .i64 (inI r a))/\w=w':=by
 unfold inI;by_cases b:r>=a
 .rw [zBx b];have d:wrap64 (r+1)=r+1:=dU oM oM;go_enter func120,ntmps120;go_wp2_with fail;go_ret;exact ⟨rfl,rfl⟩
 .rw [zBw b];go_enter func120,ntmps120;go_wp2_with fail;go_ret;exact ⟨rfl,rfl⟩
def nO (a b w) (f:-1000000<=a/\a<=1000000):
 Calls prog 114 #[(a:Int),(b:Int)] w λd w'=>d=.returned (.int .i64 (aC4 a b))/\w=w':=by
 unfold aC4;by_cases c:a > b
 .rw [zBx c];have e:IntKind.i64.wrap (a - 1)=a - 1:=zu;go_enter func114,ntmps114;go_wp2_with fail;go_ret;exact ⟨rfl,rfl⟩
 .rw [zBw c];go_enter func114,ntmps114;go_wp2_with fail;go_ret;exact ⟨rfl,rfl⟩
def aHD (a d b:Nat) (w) (r:0 < a∨¬d < b) (q:a<=1000000):
 Calls prog 173 #[(a:Int),(d:Int),(b:Int)] w λl w'=>l=.returned (.int .i64 (aL3 a d b:Nat))/\w=w':=by
 unfold aL3;by_cases k:d < b
 .obtain ⟨c,p⟩:∃c,a=c+1:=⟨a - 1,by omega⟩;subst p;have o:(d:Int) < b:=oM;have m:IntKind.i64.wrap ((c+1:Nat) - 1)=(c:Int):=zu;obtain ⟨a,i⟩:=eqx (c+1);rw [i] at m⊢;have e:(if d < b then a - 1 else a)=c:=(by rw [zBx k];omega);simp only [e];by_cases f:b<=c
  .have g:(c:Int)>=b:=oM;have n:wrap64 (c+1)=((c+1:Nat):Int):=(by rw [dU oM oM];rfl);rw [zBx f];clear e i;go_enter func173,ntmps173;go_wp2_with fail;go_ret;exact ⟨rfl,rfl⟩
  .have g:¬(c:Int)>=b:=oM;rw [zBw f];clear e i;go_enter func173,ntmps173;go_wp2_with fail;go_ret;exact ⟨rfl,rfl⟩
 .have o:¬(d:Int) < b:=oM;have e:(if d < b then a - 1 else a)=a:=(by rw [zBw k]);simp only [e];by_cases f:b<=a
  .have g:(a:Int)>=b:=oM;have n:wrap64 (a+1)=((a+1:Nat):Int):=(by rw [dU oM oM];rfl);rw [zBx f];clear e;go_enter func173,ntmps173;go_wp2_with fail;go_ret;exact ⟨rfl,rfl⟩
  .have g:¬(a:Int)>=b:=oM;rw [zBw f];clear e;go_enter func173,ntmps173;go_wp2_with fail;go_ret;exact ⟨rfl,rfl⟩
def aEa {gl d e f mv a b w} (c:Bk w gl 104 #[d,e,f,(mv:Int)]) (l:0<=a) (m:a<=b):
 Calls prog 105 #[gl,(a:Int),(b:Int)] w λg w'=>g=.returned (.int .i64 0)/\w'=w.setCell ⟨gl,3,none⟩ (.int .i64 0):=by
 have i:w.cell? ⟨gl,3,none⟩=some (.int .i64 mv):=(c.cell 3).trans rfl;have k:=c.frozen 3;have n:=zn (a < 0);have o:¬a > b:=oM;have p:¬b < a:=oM;clear c;go_enter func105,ntmps105;go_wp2_with fail;go_ret;exact ⟨rfl,rfl⟩
def aOf (R:List Nat) (a:Nat):Int:=if a=0 then -1 else ((ro R (a - 1):Nat):Int)
def aFd (R j):aOf R (j+1)=((ro R j:Nat):Int):=by unfold aOf;rw [zBw oM,zBb]
structure ReoI (w0 wr:World) (B:Nat) (mL own:Nat->Nat) (gl gk gp rate:Nat) (mv:Int) (S T:List Nat) (N i:Nat) (R:List Nat) (pr0 pr:List (Nat×Nat)):Prop where
 P:Near S R N i
 live:LiveM wr B own gl gk gp rate mv (N+1) (N+1) (aH S R) T pr
 ag:T.Perm (aH S R)
 right:∀x∈pr,R[x.1]?=some x.2
 ci:∀p,(∃x∈pr,x.2=p)↔∃x∈pr0,x.2=p
 ne:0 < i->pr≠ []
 lf:LF B w0 wr mL own
 bA:0<=mv/\mv+(i:Int)<=(N:Int)+1
def mZ {L T} (c:T.Perm L) (b a):uL L T b a=cR L b a:=by
 unfold uL cR;rw [c.countP_eq]
section
variable {w0 wr : World} {B : Nat} {mL own : Nat -> Nat} {gl gk gp rate : Nat} {mv : Int} {S T : List Nat} {N j : Nat} {R : List Nat} {pr0 pr : List (Nat × Nat)}
def aKG (b:Near S R N j) {a} (c:a<=N):(aH S R)[ro R a]?=some (bS S a):=by
 unfold aH;rw [zAf,cE (b.mem.2 c)];rfl
def aKF (b:Near S R N (j+1)) (d:j < N) (a:ro R j=tgt S R j):Near S R N 0:=by
 refine aHS b d rfl (zFU R) a (λg e f=>?_) (.inr ⟨a,rfl⟩);have i:ro R g≠ro R j:=λc=>f (fL e (b.mem.2 oM) c);rw [<-a];unfold inR bN;split <;> split <;> omega
def mV (a:Near S R N (j+1)) (c:j < N):Near S (aT (aK R (ro R j)) (tgt S R j) j) N j/\ro (aT (aK R (ro R j)) (tgt S R j) j) j=tgt S R j/\(∀b,b<=N->b≠j->ro (aT (aK R (ro R j)) (tgt S R j) j) b=inR (bN (ro R b) (ro R j)) (tgt S R j))/\(aT (aK R (ro R j)) (tgt S R j) j).Perm R:=by
 have k:=aJ6 a c;obtain ⟨d,e,f⟩:=zD a.nodup (t:=tgt S R j) (cE (a.mem.2 (show j<=N by omega))) (by rw [a.len];exact k);exact ⟨aHS a c rfl d e f (.inl rfl),e,λb g i=>f b (a.mem.2 g) i,d⟩
def aIN (d:Near S R N (j+1)) (k:j < N) (l:∀b∈pr,R[b.1]?=some b.2):∀b∈pr.map (λb=>(mvR (ro R j) (tgt S R j) b.1,b.2)),(aT (aK R (ro R j)) (tgt S R j) j)[b.1]?=some b.2:=λb m=>by
 obtain ⟨a,n,rfl⟩:=zAy.1 m;have i:=l a n;have f:ro R a.2=a.1:=gR d.nodup i;have g:a.2<=N:=d.mem.1 (zAd i);obtain ⟨p,q,r,s⟩:=mV d k;show (aT (aK R (ro R j)) (tgt S R j) j)[mvR (ro R j) (tgt S R j) a.1]?=some a.2;have o:mvR (ro R j) (tgt S R j) a.1=ro (aT (aK R (ro R j)) (tgt S R j) j) a.2:=by
  unfold mvR;by_cases e:a.1=ro R j
  .have c:a.2=j:=fL (d.mem.2 g) (d.mem.2 oM) (by rw [f,e]);rw [zBx e,c,q]
  .have c:a.2≠j:=λc=>e (by rw [<-f,c]);rw [zBw e,r _ g c,f]
 rw [o];exact cE (p.mem.2 g)
def aMY {mv:Int} {j N:Nat} (a:0<=mv/\mv+((j+1:Nat):Int)<=N+1) (b:N<=895):0<=wrap64 (mv+1)/\wrap64 (mv+1)+(j:Int)<=N+1:=by
 unfold wrap64;omega
def aAd {w' own' pr'} (a:ReoI w0 wr B mL own gl gk gp rate mv S T N (j+1) R pr0 pr) (f:j < N) (k:LiveM w' B own' gl gk gp rate (wrap64 (mv+1)) (N+1) (N+1) (aT (aK (aH S R) (ro R j)) (tgt S R j) (bS S j)) T pr') (d:pr'.Perm (pr.map λb=>(mvR (ro R j) (tgt S R j) b.1,b.2))) (i:LF B wr w' own own') (g:N<=895):
 ReoI w0 w' B mL own' gl gk gp rate (wrap64 (mv+1)) S T N j (aT (aK R (ro R j)) (tgt S R j) j) pr0 pr':=by
 obtain ⟨n,s,t,o⟩:=mV a.P f;have l:aH S (aT (aK R (ro R j)) (tgt S R j) j)=aT (aK (aH S R) (ro R j)) (tgt S R j) (bS S j):=aGL (cE (a.P.mem.2 oM));refine ⟨n,by rw [l];exact k,a.ag.trans ?_,λb c=>aIN a.P f a.right b (d.subset c),λp=>?_,λr e=>?_,a.lf.trans i,aMY a.bA g⟩;unfold aH;exact (o.map _).symm;rw [<-a.ci p];constructor;rintro ⟨b,c,rfl⟩;obtain ⟨q,m,e⟩:=zAy.1 (d.subset c);exact ⟨q,m,by rw [<-e]⟩;rintro ⟨b,c,rfl⟩;exact ⟨_,d.symm.subset (zAy.2 ⟨b,c,rfl⟩),rfl⟩;subst e;have:=d.length_eq;simp at this;exact a.ne oM (zBk this.symm)
end
def aMX {S R N a} (b:Near S R N (a+2)) (c:a+1 < N):((inR (bN (ro R a) (ro R (a+1))) (tgt S R (a+1)):Nat):Int)=aOf (aT (aK R (ro R (a+1))) (tgt S R (a+1)) (a+1)) (a+1):=by
 rw [aFd,(mV b c).2.2.1 a oM oM]
def Grew.after {w c f own e} (k:∀a,own a≠0->a < w.heap.size) (d:Keep (λa=>own a=2∨16<=own a) w c) (b:Grew c f own e):Grew w f own e:=by
 have l:=d.size;refine ⟨λa p=>b.H a oM,λa o i=>?_,d.trans b.keep⟩;by_cases g:a < c.heap.size;have m:=b.H a g;have n:=k a oM;omega;exact b.new a oM i
def vH (w0:World) (B:Nat) (mL:Nat->Nat) (gl gk gp rate:Nat) (S T:List Nat) (N:Nat) (pr0:List (Nat×Nat)) (a:Ending) (w':World):Prop:=
 a=.returned (.tuple #[])/\∃own mv R pr,ReoI w0 w' B mL own gl gk gp rate mv S T N 0 R pr0 pr
def qP {w0 w B mL cv gl gk gp rate cu S T N aM bt pr0 cw} (ae:ReoI w0 w B mL cv gl gk gp rate cu S T N aM bt pr0 cw) (cL:aM<=N) (bF:N<=895) (b:∀aI∈S,aI < 257):
 Calls prog 113 #[gl,(aM:Int),.int .i64 (ro bt aM:Nat),(aOf bt aM:Int)] w (vH w0 B mL gl gk gp rate S T N pr0):=by
 obtain ⟨c6,cy⟩:=hqq2 ae b;clear ae b;unfold vH;go_enter func113,ntmps113;go_wp2_with fail;go_loopw [1,2,3] (λaI cX cY wr=>∃(H:Nat) (own:Nat->Nat) (mv:Int) (R:List Nat) (pr:List (Nat×Nat)),H<=N/\aI=.int .i64 H/\cX=.int .i64 (ro R H:Nat)/\cY=.int .i64 (aOf R H)/\ReoI w0 wr B mL own gl gk gp rate mv S T N H R pr0 pr) (λaI _ _ _=>(intOf aI).toNat)
 case atStart=>exact ⟨aM,cv,cu,bt,cw,cL,rfl,rfl,rfl,c6⟩
 case round=>
  clear c6;obtain ⟨H,own,mv,R,pr,d1,rfl,rfl,rfl,aq⟩:=hrel;rcases H with _ | j
  .have A:=lhd aq;clear aq;go_wp2_with fail;go_end0;exact ⟨rfl,own,mv,R,pr,A⟩
  .have a4:j < N:=oM;have W:=aq.P;obtain ⟨L,ak⟩:=eqx (aH S R);have bE:L.length=N+1:=(by rw [<-ak,bY,W.len]);have bD:∀aI∈L,aI < 257:=(by rw [<-ak];exact dR cy);have cd:T.length=N+1:=(by rw [aq.ag.length_eq,ak,bE]);have cc:S.length=N+1:=W.ba.len;have aD:=aKG W (show j+1<=N by omega);have b6:=aKG W (show j<=N by omega);rw [bL oM] at aD;rw [ak] at aD b6;have ht:uL L T (S.getD j 0) (ro R (j+1))=tgt S R j:=(by rw [<-ak,mZ aq.ag];rfl);have ct:=aJ6 W a4;have cs:=λu=>aKF W a4 u;have bx:=aq.live;rw [ak] at bx;rw [aFd];have bH:ro R j < N+1:=(by have:=zDk.2 (W.mem.2 (show j<=N by omega));rw [W.len] at this;exact this);have bM:ro R (j+1) < N+1:=(by have:=zDk.2 (W.mem.2 (show j+1<=N by omega));rw [W.len] at this;exact this);obtain ⟨t,bW⟩:=eqx (tgt S R j);obtain ⟨c,bu⟩:=eqx (ro R j);obtain ⟨aV,bw⟩:=eqx (ro R (j+1));obtain ⟨aU,bK⟩:=eqx (S.getD j 0);obtain ⟨g,bO⟩:=eqx (bS S j);rw [bW] at ht ct;rw [bu] at b6 bH;rw [bw] at ht aD bM;rw [bK] at ht aD;rw [bO] at b6;rw [bu,bw];have bX:=zN (i:=aV) (s:=aU) bx aD bD oM oM;rw [ht] at bX;have cG:IntKind.i64.wrap ((j+1:Nat) - 1)=(j:Int):=zu;obtain ⟨aN,bQ⟩:=eqx (j+1);rw [bQ] at cG⊢;have d3:=zy ((aN:Int) > 0);have d2:0 < aN:=oM;obtain ⟨A,cD,aJ,v,G,cx,a9,E,I⟩:=hqq9 aq bx ak bE bD aD b6 bW bu;obtain ⟨cC,cB,bq,aC,cA,cz,cF⟩:=hqq7 bw bK bO bQ cd cc cs;have d5:t<=N:=oM;clear aq bx ak bE bD aD b6 bW bu bw bK bO bQ cd cc cs W ht ct;go_wp2_with fail;refine bX.mono ?_;clear bX;rintro u w1 ⟨rfl,bZ⟩;have cn:=cD.b bZ.1;have ch:=LF.i (own:=own) bZ;obtain ⟨aQ,bA⟩:=hqq2 cn ch;clear cn ch bZ;by_cases cf:c=t
   .have cI:((c:Int)==t)=true:=(by rw [cf];simp);go_wp2_with fail;refine bodyPost_ret (results_none rfl _ _ _) rfl ?_;have aL:=A.out;exact ⟨rfl,own,mv,R,pr,cF (by rw [I.out,E.out];exact cf),by rw [aJ.out];exact aQ,aL.ag,aL.right,aL.ci,λa2=>absurd a2 (zCl 0),aL.lf.trans bA,⟨aL.bA.1,by have:=aL.bA.2;omega⟩⟩
   .have cI:((c:Int)==t)=false:=(by rw [zCb];omega);obtain ⟨bC,cZ,bd,bm⟩:=aQ.gw;have c4:=aQ.a.cell 0;have c5:=bd.cell 0;have cl:=eR (B:=B) (gv:=bC) (L:=L) (w:=w1) aV aU bm (by rw [v.out];exact bM) (by have a2:=cx.out;rw [zAa (by rw [v.out];exact bM)] at a2;injection a2) G (by rw [v.out];omega);clear bd bm;go_wp2_with fail;refine cl.mono ?_;clear cl;rintro u e ⟨rfl,c0⟩;have co:=aQ.b c0.1;have ci:=bA.trans (LF.i (own:=own) c0);obtain ⟨br,c7⟩:=hqq2 co ci;clear co ci c0 c4 c5;obtain ⟨cH,d0,bd,bm⟩:=br.gw;have c4:=br.a.cell 0;have c5:=bd.cell 0;have cm:=eR (B:=B) (gv:=cH) (L:=L) (w:=e) c g bm (by rw [v.out];exact bH) (by have a2:=a9.out;rw [zAa (by rw [v.out];exact bH)] at a2;injection a2) G (by rw [v.out];omega);clear bd bm aQ bA;go_wp2_with fail;refine cm.mono ?_;clear cm;rintro u a0 ⟨rfl,c1⟩;have cp:=br.b c1.1;have cj:=c7.trans (LF.i (own:=own) c1);obtain ⟨n,aP⟩:=hqq2 cp cj;clear cp cj c1 c4 c5 br c7;rcases zBa j with bP | bP
    .have cM:decide ((aN:Int) > 1)=false:=zBy (zj aC.out);have cN:¬(aN:Int) > 1:=(zj aC.out);have aE:aOf (aT (aK R (ro R j)) (tgt S R j) j) j=-1:=(by rw [bP];rfl);have bs:=lhd aE;clear aE bP;have M:a0.cell? gl=some (.pointer (some gk)):=(n.a.cell 0).trans rfl;have U:=n.a.lt;have V:¬(own gl=2∨16<=own gl):=(zj n.x);have bj:∀a,a0.heap.size<=a->own a≠1:=λa am u=>by have:=(n.q a oM).2;omega
     go_wp2_with fail;refine wp_region_any kR<|cQ (pre:=(λe=>WalkE e B own gk L T)) 11 [60,61,62,63,64,65,66,67,68,69,70] (λa=>own a=2∨16<=own a) 10 [10] (λZ e=>Z=.int .i64 g/\∃d,WalkE e B d gk (aK L c) T/\Grew a0 e own d) [is gl,is gl,is gl,is gk,is (t:Int),is gl,is gl,is gl,is gk,is (c:Int),cO] _ rfl dC kR kR kR ((n.walk.b (kb (km bR 1)))) (λe a0 ae _ ba=>ae.b (kb ba)) (λ_ _ _ ⟨b3,d,b4,O⟩ X=>⟨b3,d,b4.b (kb X),O.H,O.new,O.keep.trans (kF X)⟩) tA1 ?_ ?_
     .refine bB<|pH3 0 (.pointer (some gl))<|pV3 0 60<|pV3 1 61<|pL3 2 62 (λm b=>have b:Keep (λa=>own a=2∨16<=own a) a0 m:=kD b;((b.cell (p:=gl) U V).trans M:m.cell? gl=some (.pointer (some gk)))) ?_;refine pH3 8 (.int .i64 t)<|pH3 0 (.pointer (some gl))<|pV3 5 65<|pV3 6 66<|pL3 7 67 (λm b=>have b:Keep (λa=>own a=2∨16<=own a) a0 m:=kD b;((b.cell (p:=gl) U V).trans M:m.cell? gl=some (.pointer (some gk)))) ?_;refine pH3 3 (.int .i64 c)<|sC3 (λ_ m b b7 _ _ _ q _ _ _ Q=>?_) ?_
      .replace b:Keep (λa=>own a=2∨16<=own a) a0 m:=kD b;have bk:=b7 rfl;have c9:_=_:=q 8 68 kR rfl;have ca:_=_:=q 9 69 kR rfl;go_simp;refine (iM (B:=B) (gk:=gk) (own:=own) (L:=L) (T:=T) (k:=c) (s:=g) (w:=m) bk a9 G (by rw [v.out];omega)).mono ?_;rintro u D ⟨rfl,d,b5,aj⟩;exact Q _ _ (aW aj.keep) ⟨rfl,d,b5,Grew.after (λa am=>(n.q a am).2) b aj⟩
      exact aB
     .intro K C o b q;replace b:Keep (λa=>own a=2∨16<=own a) a0 C:=kD b;have aX:K (.tmp 63)=.pointer (some gk):=q 3 63 dC rfl;have aZ:K (.tmp 64)=.int .i64 t:=q 4 64 dC rfl;have bp:(λZ e=>Z=.int .i64 g/\∃d,WalkE e B d gk (aK L c) T/\Grew a0 e own d) (K (.tmp 70)) C:=q 10 70 dC rfl;simp only [zqq];rw [aX];rw [aZ];clear q;obtain ⟨cb,d,af,ah⟩:=bp;obtain ⟨a7,a8⟩:=hqq2 af ah;clear af ah M U V bj b;change wpAny prog Region.Mode.any _ _ (1+o) (bT 11 12) _ C;rw [zCt 1 o];refine aY (f:=o) (i:=11) kR ?_;refine bJ rfl rfl ?_;generalize Q:wpAny prog _ _ _ o _=K5;go_simp;have b9:=cJ (l:=L) (show c < L.length by rw [v.out];omega);refine (iL (B:=B) (gk:=gk) (own:=d) (L:=(aK L c)) (T:=T) (s:=g) (w:=C) t a7 (G g (zAd a9)) (zj v.out) (rS G) (zj v.out)).mono ?_;rintro u a1 ⟨rfl,az,ag,ai⟩;subst Q;refine bG kR ?_;obtain ⟨y,an⟩:=n.I ag (a8.trans ai);have ay:=iB (F:=(λa=>az a=1)) (gp:=gp) (R:=(N+1)) (P:=(N+1)) (z1:=t) (pr:=pr) (w:=a1) c y.perm oM oM oM oM (A.ne oM);have b1:a1.cell? ⟨gl,1,none⟩=some (.pointer (some gp)):=(y.a.cell 1).trans rfl;have bb:=y.a.lt;obtain ⟨ac,aa⟩:=hqq2 y (aP.out.trans an);clear y an ag ai a8 a7 b9;go_wp2_with fail;refine ay.mono ?_;clear ay;rintro u D ⟨rfl,⟨pr',ax,al⟩,ar⟩;obtain ⟨au,ao⟩:=ac.S (al.mono λa _ o=>.inl o) ar;obtain ⟨aS,x,J⟩:=hqq3 ax au (aa.out.trans ao);clear au ao al ar ax b1 bb ac aa;obtain ⟨aA,aw⟩:=eqx (eD az a1.heap.size D.heap.size 1);rw [aw] at x J;have b2:D.cell? ⟨gl,3,none⟩=some (.int .i64 mv):=(x.a.cell 3).trans rfl;have b0:=x.a.frozen 3;have bc:=x.a.lt;go_wp2_with fail;obtain ⟨av,ap⟩:=x.ah (wrap64 (mv+1));obtain ⟨ad,ab⟩:=hqq2 av (J.out.trans ap);clear av ap b2 b0 bc x J aw;generalize D.setCell ⟨gl,3,none⟩ (.int .i64 (wrap64 (mv+1)))=w9 at ad ab⊢;go_wp2_with fail;go_roundw
      case rel=>have bf:LiveM w9 B aA gl gk gp rate (wrap64 (mv+1)) (N+1) (N+1) (aT (aK (aH S R) (ro R j)) (tgt S R j) (bS S j)) T pr':=(by rw [aJ.out,I.out,E.out,bq.out];exact ad);have bl:=aAd A a4 bf (by rw [I.out,E.out];exact aS) ab bF;have bh:=(mV A.P a4).2.1;exact ⟨j,aA,wrap64 (mv+1),_,pr',by omega,rfl,by rw [bh,E.out],by rw [bs.out],bl⟩
      case measure=>simp [intOf];have:=aC.out;omega
    .obtain ⟨a6,bg⟩:∃a6,j=a6+1:=⟨j - 1,by omega⟩;have cM:decide ((aN:Int) > 1)=true:=zBz (zj aC.out);have cN:(aN:Int) > 1:=(zj aC.out);have bi:Near S R N (a6+2):=(by have:=A.P;rwa [bg] at this);obtain ⟨aO,bn⟩:=aK7 bi oM;have aE:((inR (bN (ro R a6) (ro R j)) (tgt S R j):Nat):Int)=aOf (aT (aK R (ro R j)) (tgt S R j) j) j:=(by subst bg;exact aMX bi a4);have cg:S.getD a6 0=g:=(by have:=bq.out;rw [bg,bL (zj cz.out)] at this;exact this);rw [<-bg] at aO bn;rw [show a6+2=j+1 by omega,cg,cB.out,I.out,cC.out,aJ.out] at aO bn;rw [I.out,E.out] at aE;have bz:=zN (i:=c) (s:=g) n a9 G (by rw [v.out];omega) (by rw [cA.out];omega);have ce:uL L T g c=cR L g c:=mZ (by rw [<-aJ.out];exact A.ag) g c;rw [ce] at bz;have cP:cR L g c<=N+1:=(by have:=zG L g c;rw [v.out] at this;exact this);obtain ⟨c3,cr⟩:=eqx (cR L g c);rw [cr] at aO bn bz cP;obtain ⟨Y,bV⟩:=eqx (ro R a6);rw [bV] at aO aE;have d4:Y<=N:=(by have cS:ro R a6 < R.length:=zDk.2 (bi.mem.2 (show a6<=N by omega));rw [bi.len,bV] at cS;omega);obtain ⟨bs,c8,cE⟩:=hqq3 aE aO bn;clear aE aO bn bi cg ce cr bV bg;go_wp2_with fail;refine bz.mono ?_;clear bz;rintro u z ⟨rfl,c2⟩;have cq:=n.b c2.1;have ck:=aP.trans (LF.i (own:=own) c2);obtain ⟨n,aP⟩:=hqq2 cq ck;clear cq ck c2;by_cases bv:aU=g
     .have cK:((aU:Int)==g)=true:=(by rw [bv];simp);have b8:aL3 c3 aV c=Y:=by have:=c8.out;rwa [zBx bv] at this
      have bI:=aHD c3 aV c z (by
       by_cases a2:aV < c;exact .inl (cE bv a2)
       .exact .inr a2) oM
      rw [b8] at bI;clear b8;go_wp2_with fail;refine bI.mono ?_;clear bI;rintro u m ⟨rfl,rfl⟩;have M:z.cell? gl=some (.pointer (some gk)):=(n.a.cell 0).trans rfl;have U:=n.a.lt;have V:¬(own gl=2∨16<=own gl):=(zj n.x);have bj:∀a,z.heap.size<=a->own a≠1:=λa am u=>by have:=(n.q a oM).2;omega
      go_wp2_with fail;refine wp_region_any kR<|cQ (pre:=(λe=>WalkE e B own gk L T)) 11 [60,61,62,63,64,65,66,67,68,69,70] (λa=>own a=2∨16<=own a) 10 [10] (λZ e=>Z=.int .i64 g/\∃d,WalkE e B d gk (aK L c) T/\Grew z e own d) [is gl,is gl,is gl,is gk,is (t:Int),is gl,is gl,is gl,is gk,is (c:Int),cO] _ rfl dC kR kR kR ((n.walk.b (kb (km bR 1)))) (λe a0 ae _ ba=>ae.b (kb ba)) (λ_ _ _ ⟨b3,d,b4,O⟩ X=>⟨b3,d,b4.b (kb X),O.H,O.new,O.keep.trans (kF X)⟩) tA1 ?_ ?_
      .refine bB<|pH3 0 (.pointer (some gl))<|pV3 0 60<|pV3 1 61<|pL3 2 62 (λm b=>have b:Keep (λa=>own a=2∨16<=own a) z m:=kD b;((b.cell (p:=gl) U V).trans M:m.cell? gl=some (.pointer (some gk)))) ?_;refine pH3 8 (.int .i64 t)<|pH3 0 (.pointer (some gl))<|pV3 5 65<|pV3 6 66<|pL3 7 67 (λm b=>have b:Keep (λa=>own a=2∨16<=own a) z m:=kD b;((b.cell (p:=gl) U V).trans M:m.cell? gl=some (.pointer (some gk)))) ?_;refine pH3 3 (.int .i64 c)<|sC3 (λ_ m b b7 _ _ _ q _ _ _ Q=>?_) ?_
       .replace b:Keep (λa=>own a=2∨16<=own a) z m:=kD b;have bk:=b7 rfl;have c9:_=_:=q 8 68 kR rfl;have ca:_=_:=q 9 69 kR rfl;go_simp;refine (iM (B:=B) (gk:=gk) (own:=own) (L:=L) (T:=T) (k:=c) (s:=g) (w:=m) bk a9 G (by rw [v.out];omega)).mono ?_;rintro u D ⟨rfl,d,b5,aj⟩;exact Q _ _ (aW aj.keep) ⟨rfl,d,b5,Grew.after (λa am=>(n.q a am).2) b aj⟩
       exact aB
      .intro K C o b q;replace b:Keep (λa=>own a=2∨16<=own a) z C:=kD b;have aX:K (.tmp 63)=.pointer (some gk):=q 3 63 dC rfl;have aZ:K (.tmp 64)=.int .i64 t:=q 4 64 dC rfl;have bp:(λZ e=>Z=.int .i64 g/\∃d,WalkE e B d gk (aK L c) T/\Grew z e own d) (K (.tmp 70)) C:=q 10 70 dC rfl;simp only [zqq];rw [aX];rw [aZ];clear q;obtain ⟨cb,d,af,ah⟩:=bp;obtain ⟨a7,a8⟩:=hqq2 af ah;clear af ah M U V bj b;change wpAny prog Region.Mode.any _ _ (1+o) (bT 11 12) _ C;rw [zCt 1 o];refine aY (f:=o) (i:=11) kR ?_;refine bJ rfl rfl ?_;generalize Q:wpAny prog _ _ _ o _=K5;go_simp;have b9:=cJ (l:=L) (show c < L.length by rw [v.out];omega);refine (iL (B:=B) (gk:=gk) (own:=d) (L:=(aK L c)) (T:=T) (s:=g) (w:=C) t a7 (G g (zAd a9)) (zj v.out) (rS G) (zj v.out)).mono ?_;rintro u a1 ⟨rfl,az,ag,ai⟩;subst Q;refine bG kR ?_;obtain ⟨y,an⟩:=n.I ag (a8.trans ai);have ay:=iB (F:=(λa=>az a=1)) (gp:=gp) (R:=(N+1)) (P:=(N+1)) (z1:=t) (pr:=pr) (w:=a1) c y.perm oM oM oM oM (A.ne oM);have b1:a1.cell? ⟨gl,1,none⟩=some (.pointer (some gp)):=(y.a.cell 1).trans rfl;have bb:=y.a.lt;obtain ⟨ac,aa⟩:=hqq2 y (aP.out.trans an);clear y an ag ai a8 a7 b9;go_wp2_with fail;refine ay.mono ?_;clear ay;rintro u D ⟨rfl,⟨pr',ax,al⟩,ar⟩;obtain ⟨au,ao⟩:=ac.S (al.mono λa _ o=>.inl o) ar;obtain ⟨aS,x,J⟩:=hqq3 ax au (aa.out.trans ao);clear au ao al ar ax b1 bb ac aa;obtain ⟨aA,aw⟩:=eqx (eD az a1.heap.size D.heap.size 1);rw [aw] at x J;have b2:D.cell? ⟨gl,3,none⟩=some (.int .i64 mv):=(x.a.cell 3).trans rfl;have b0:=x.a.frozen 3;have bc:=x.a.lt;go_wp2_with fail;obtain ⟨av,ap⟩:=x.ah (wrap64 (mv+1));obtain ⟨ad,ab⟩:=hqq2 av (J.out.trans ap);clear av ap b2 b0 bc x J aw;generalize D.setCell ⟨gl,3,none⟩ (.int .i64 (wrap64 (mv+1)))=w9 at ad ab⊢;have a5:=nO (Y:Int) (c:Int) w9 oM;rw [mX] at a5;have bU:bN Y c<=896:=(by unfold bN;split <;> omega);obtain ⟨bo,aG⟩:=eqx (bN Y c);rw [aG] at a5 bU;have a3:=zO (r:=(bo:Int)) (t:Int) w9 oM;rw [zH] at a3;have aF:=bs.out;rw [aG] at aF;have cT:=zy ((Y:Int)>=0);have aR:=lhd aF;obtain ⟨cU,be⟩:=eqx (inR bo t);rw [be] at a3 aR;clear aF aG be;go_wp2_with fail;refine a5.mono ?_;rintro u cV ⟨rfl,rfl⟩;go_wp2_with fail;refine a3.mono ?_;rintro u cW ⟨rfl,rfl⟩;clear a5 a3;go_wp2_with fail;go_roundw
       case rel=>have bf:LiveM w9 B aA gl gk gp rate (wrap64 (mv+1)) (N+1) (N+1) (aT (aK (aH S R) (ro R j)) (tgt S R j) (bS S j)) T pr':=(by rw [aJ.out,I.out,E.out,bq.out];exact ad);have bl:=aAd A a4 bf (by rw [I.out,E.out];exact aS) ab bF;have bh:=(mV A.P a4).2.1;exact ⟨j,aA,wrap64 (mv+1),_,pr',by omega,rfl,by rw [bh,E.out],by rw [aR.out,I.out,E.out],bl⟩
       case measure=>simp [intOf];have:=aC.out;omega
     .have cK:((aU:Int)==g)=false:=(by rw [zCb];omega);have b8:c3=Y:=(by have:=c8.out;rwa [zBw bv] at this);rw [b8];clear b8;have M:z.cell? gl=some (.pointer (some gk)):=(n.a.cell 0).trans rfl;have U:=n.a.lt;have V:¬(own gl=2∨16<=own gl):=(zj n.x);have bj:∀a,z.heap.size<=a->own a≠1:=λa am u=>by have:=(n.q a oM).2;omega
      go_wp2_with fail;refine wp_region_any kR<|cQ (pre:=(λe=>WalkE e B own gk L T)) 11 [60,61,62,63,64,65,66,67,68,69,70] (λa=>own a=2∨16<=own a) 10 [10] (λZ e=>Z=.int .i64 g/\∃d,WalkE e B d gk (aK L c) T/\Grew z e own d) [is gl,is gl,is gl,is gk,is (t:Int),is gl,is gl,is gl,is gk,is (c:Int),cO] _ rfl dC kR kR kR ((n.walk.b (kb (km bR 1)))) (λe a0 ae _ ba=>ae.b (kb ba)) (λ_ _ _ ⟨b3,d,b4,O⟩ X=>⟨b3,d,b4.b (kb X),O.H,O.new,O.keep.trans (kF X)⟩) tA1 ?_ ?_
      .refine bB<|pH3 0 (.pointer (some gl))<|pV3 0 60<|pV3 1 61<|pL3 2 62 (λm b=>have b:Keep (λa=>own a=2∨16<=own a) z m:=kD b;((b.cell (p:=gl) U V).trans M:m.cell? gl=some (.pointer (some gk)))) ?_;refine pH3 8 (.int .i64 t)<|pH3 0 (.pointer (some gl))<|pV3 5 65<|pV3 6 66<|pL3 7 67 (λm b=>have b:Keep (λa=>own a=2∨16<=own a) z m:=kD b;((b.cell (p:=gl) U V).trans M:m.cell? gl=some (.pointer (some gk)))) ?_;refine pH3 3 (.int .i64 c)<|sC3 (λ_ m b b7 _ _ _ q _ _ _ Q=>?_) ?_
       .replace b:Keep (λa=>own a=2∨16<=own a) z m:=kD b;have bk:=b7 rfl;have c9:_=_:=q 8 68 kR rfl;have ca:_=_:=q 9 69 kR rfl;go_simp;refine (iM (B:=B) (gk:=gk) (own:=own) (L:=L) (T:=T) (k:=c) (s:=g) (w:=m) bk a9 G (by rw [v.out];omega)).mono ?_;rintro u D ⟨rfl,d,b5,aj⟩;exact Q _ _ (aW aj.keep) ⟨rfl,d,b5,Grew.after (λa am=>(n.q a am).2) b aj⟩
       exact aB
      .intro K C o b q;replace b:Keep (λa=>own a=2∨16<=own a) z C:=kD b;have aX:K (.tmp 63)=.pointer (some gk):=q 3 63 dC rfl;have aZ:K (.tmp 64)=.int .i64 t:=q 4 64 dC rfl;have bp:(λZ e=>Z=.int .i64 g/\∃d,WalkE e B d gk (aK L c) T/\Grew z e own d) (K (.tmp 70)) C:=q 10 70 dC rfl;simp only [zqq];rw [aX];rw [aZ];clear q;obtain ⟨cb,d,af,ah⟩:=bp;obtain ⟨a7,a8⟩:=hqq2 af ah;clear af ah M U V bj b;change wpAny prog Region.Mode.any _ _ (1+o) (bT 11 12) _ C;rw [zCt 1 o];refine aY (f:=o) (i:=11) kR ?_;refine bJ rfl rfl ?_;generalize Q:wpAny prog _ _ _ o _=K5;go_simp;have b9:=cJ (l:=L) (show c < L.length by rw [v.out];omega);refine (iL (B:=B) (gk:=gk) (own:=d) (L:=(aK L c)) (T:=T) (s:=g) (w:=C) t a7 (G g (zAd a9)) (zj v.out) (rS G) (zj v.out)).mono ?_;rintro u a1 ⟨rfl,az,ag,ai⟩;subst Q;refine bG kR ?_;obtain ⟨y,an⟩:=n.I ag (a8.trans ai);have ay:=iB (F:=(λa=>az a=1)) (gp:=gp) (R:=(N+1)) (P:=(N+1)) (z1:=t) (pr:=pr) (w:=a1) c y.perm oM oM oM oM (A.ne oM);have b1:a1.cell? ⟨gl,1,none⟩=some (.pointer (some gp)):=(y.a.cell 1).trans rfl;have bb:=y.a.lt;obtain ⟨ac,aa⟩:=hqq2 y (aP.out.trans an);clear y an ag ai a8 a7 b9;go_wp2_with fail;refine ay.mono ?_;clear ay;rintro u D ⟨rfl,⟨pr',ax,al⟩,ar⟩;obtain ⟨au,ao⟩:=ac.S (al.mono λa _ o=>.inl o) ar;obtain ⟨aS,x,J⟩:=hqq3 ax au (aa.out.trans ao);clear au ao al ar ax b1 bb ac aa;obtain ⟨aA,aw⟩:=eqx (eD az a1.heap.size D.heap.size 1);rw [aw] at x J;have b2:D.cell? ⟨gl,3,none⟩=some (.int .i64 mv):=(x.a.cell 3).trans rfl;have b0:=x.a.frozen 3;have bc:=x.a.lt;go_wp2_with fail;obtain ⟨av,ap⟩:=x.ah (wrap64 (mv+1));obtain ⟨ad,ab⟩:=hqq2 av (J.out.trans ap);clear av ap b2 b0 bc x J aw;generalize D.setCell ⟨gl,3,none⟩ (.int .i64 (wrap64 (mv+1)))=w9 at ad ab⊢;have a5:=nO (Y:Int) (c:Int) w9 oM;rw [mX] at a5;have bU:bN Y c<=896:=(by unfold bN;split <;> omega);obtain ⟨bo,aG⟩:=eqx (bN Y c);rw [aG] at a5 bU;have a3:=zO (r:=(bo:Int)) (t:Int) w9 oM;rw [zH] at a3;have aF:=bs.out;rw [aG] at aF;have cT:=zy ((Y:Int)>=0);have aR:=lhd aF;obtain ⟨cU,be⟩:=eqx (inR bo t);rw [be] at a3 aR;clear aF aG be;go_wp2_with fail;refine a5.mono ?_;rintro u cV ⟨rfl,rfl⟩;go_wp2_with fail;refine a3.mono ?_;rintro u cW ⟨rfl,rfl⟩;clear a5 a3;go_wp2_with fail;go_roundw
       case rel=>have bf:LiveM w9 B aA gl gk gp rate (wrap64 (mv+1)) (N+1) (N+1) (aT (aK (aH S R) (ro R j)) (tgt S R j) (bS S j)) T pr':=(by rw [aJ.out,I.out,E.out,bq.out];exact ad);have bl:=aAd A a4 bf (by rw [I.out,E.out];exact aS) ab bF;have bh:=(mV A.P a4).2.1;exact ⟨j,aA,wrap64 (mv+1),_,pr',by omega,rfl,by rw [bh,E.out],by rw [aR.out,I.out,E.out],bl⟩
       case measure=>simp [intOf];have:=aC.out;omega
end
end Go.Proofs.YtknjfpcdhdmghaaGreatDoor
