/- Lemmas of the walk. Conditions: each its own. -/
import Derived.Test.YtknjfpcdhdmghaaGreatDoorPt20
set_option linter.all false
set_option maxRecDepth 100000
set_option maxHeartbeats 2000000
open Go.Proofs.Tryz
namespace Go.Proofs.YtknjfpcdhdmghaaGreatDoor
section
open Go.RowKit
def PermAt.b {q w' c j g n o p m R e k d l f} (a:PermAt q c j g n o p m R e k d l f) (b:Vis q w'):PermAt w' c j g n o p m R e k d l f:=
 ⟨b.d a.a dC dC,b.own a.u dC dC,b.own a.t dC dC,b.d a.V dC dC,b.own a.F dC dC,b.own a.M dC dC,a.apart,a.lt,a.lo⟩
def LiveAt.b {r w' d j gk k g o p q c l m f e n} (a:LiveAt r d j gk k g o p q c l m f e n) (b:Vis r w'):LiveAt w' d j gk k g o p q c l m f e n:=
 ⟨b.d a.a dC dC,a.walk.b b,a.perm.b b⟩
def aKv (e d c i b):(i,b)∈dE e d c↔i < c/\e.getD i 0=b/\b % d=0:=by
 unfold dE;rw [zAy];constructor;rintro ⟨k,a,f⟩;rw [zCx,zCj] at a;cases f;exact ⟨a.1,rfl,by simpa using a.2⟩;rintro ⟨g,rfl,j⟩;exact ⟨i,zCx.2 ⟨zCj.2 g,by simpa using j⟩,rfl⟩
def aCZ {a} (f:a.Pairwise (λb c=>b.1 < c.1)):(List.range a.length).Pairwise (λb c=>aF a b < aF a c):=by
 rw [zAr];intro i j d e g;rw [zCi] at d e;rw [zFM,zFM];have:=zAr.1 f i j d e g;unfold aF;rw [zAb,zAb,zAa d,zAa e];exact this
def aKw (c b a):(dE c b a).length<=a:=by
 unfold dE;rw [zBc];exact zAk (zCw _ _) zs
def aEw {a c} (d:IsSuf (aG a) c):c[0]?=some a.length:=by
 obtain ⟨o,l,m⟩:=fA a;obtain ⟨j,g,f⟩:=d.row (p:=a.length) oM;rcases zBa j with e | e
 .subst e;rw [zAa g,f]
 .exfalso;have b:=zAr.1 d.B 0 j oM g e;rw [f] at b;have n:=d.lt (zBj (show 0 < c.length by omega));have q:c[0]' oM≠a.length:=λk=>by exact (zAr.1 d.nodup 0 j oM g e) (by rw [k,f])
  rw [jF,fN (by omega:a.length < (aG a).length),fN n,l] at b;have:=m (c[0]' oM) oM;rcases b with b | b;omega;omega
def zC {n c} (d:IsSuf n c) {i b k:Nat} (l:c[i]?=some k) (m:c[b]?=some k):i=b:=by
 obtain ⟨e,f⟩:=zAc.1 l;obtain ⟨g,j⟩:=zAc.1 m;rcases zDD i b with a | a | a;exact absurd (by rw [f,j]) (zAr.1 d.nodup i b e g a);exact a;exact absurd (by rw [f,j]) (zAr.1 d.nodup b i g e a)
end
section
open Go.RowKit Go.Shelf
def PermR (s:World) (l R e:Nat) (m:List (Nat×Nat)):Prop:=
 ∃d k p q r o b a n j,PermAt s d l k p q r o R e b a n j/\b.Pairwise (λf g=>aF a f < aF a g)/\a.length<=1000/\b.length<=1000/\m=b.map λc=>(aF a c,aS a c)
def PermR.le {f c R b a} (d:PermR f c R b a):a.length<=1000:=by
 obtain ⟨g,l,s,t,u,r,p,j,q,k,m,n,o,e,rfl⟩:=d;rw [zBc];exact e
def PermR.b {d w' b R a c} (k:PermR d b R a c) (n:Vis d w'):PermR w' b R a c:=by
 obtain ⟨e,j,r,s,t,q,o,f,p,g,l,m⟩:=k;exact ⟨e,j,r,s,t,q,o,f,p,g,l.b n,m⟩
def PermR.lt {b a R c f} (d:PermR b a R c f):a < b.heap.size:=by
 obtain ⟨g,l,q,r,s,p,n,j,o,k,e,m⟩:=d;exact e.a.lt
def aDW {O j a0 al am an ak R P f c ah Y e} (g:PermAt e O j a0 al am an ak R P f c ah Y) (a1:c.length<=1000) (a2:f.length<=1000):
 Calls prog 146 #[j] e (nN e (f.map λa=>(aF c a,aS c a))):=by
 obtain ⟨ag,a7,ad,ae,af⟩:=info_parts wK;have G:=g.t;obtain ⟨L,Q,rfl,_,_⟩:=aZ G;obtain ⟨K,B,rfl,_,_⟩:=aZ g.u;have s:e.cell? ⟨j,1,none⟩=some (.slice K c.length B):=(g.a.cell 1).trans rfl;have C:e.cell? ⟨j,2,none⟩=some (.slice L f.length Q):=(g.a.cell 2).trans rfl;have a6:=g.a.lt;obtain ⟨N,D⟩:=eqx c.length;obtain ⟨n,x⟩:=eqx f.length;obtain ⟨d,z⟩:∃d,(f.map λa=>(aF c a,aS c a))=d:=⟨_,rfl⟩;have A:d.length=n:=by rw [<-z,zBc,x]
 rw [z];rw [D] at s a1;rw [x] at C a2;clear G;unfold nN;go_enter func146,ntmps146;go_wp2_with fail;go_loopw [3,13] (λai i wr=>∃a:Nat,a<=n/\i=.int .i64 a/\wr.ownsRow e.heap.size 133 2 ai a (bU (d.take a))/\Below e.heap.size e wr) (λ_ i _=>n -(intOf i).toNat)
 case atStart=>exact ⟨0,zAp _,rfl,ki _ _ _ _,kg _ _⟩
 case round=>
  obtain ⟨a,av,rfl,l,k⟩:=hrel;have H:=k.size;by_cases a8:a < n
  .have F:a < f.length:=(by rw [x];exact a8);obtain ⟨b,o⟩:∃b,f[a]?=some b:=⟨_,zAa F⟩;have w:b < c.length:=g.lt b (zAd o);have au:b < N:=(by rw [<-D];exact w);have m:=g.below k;have y:=m.t;obtain ⟨Z,ay,X,_,ar⟩:=kj y oM;obtain ⟨t,ax,W,_,aq⟩:=kj m.u oM;injection X with e2a _ _;injection W with e1a _ _;subst e2a;subst e1a;have ao:wr.cell? ⟨Z,a,none⟩=some (.int .i64 b):=(kh y a oM).trans (by rw [zAf,o];rfl);obtain ⟨I,J⟩:=cL c b w;have U:wr.cell? ⟨t,b*2,none⟩=_:=(kh m.u (b*2) oM).trans I;have V:wr.cell? ⟨t,b*2+1,none⟩=_:=(kh m.u (b*2+1) oM).trans J;have ap:wr.cell? ⟨j,1,none⟩=some (.slice (some t) N B):=(k.cell (p:=⟨j,1,none⟩) a6).trans s;obtain ⟨q,u⟩:=eqx (aF c b);obtain ⟨r,v⟩:=eqx (aS c b);have aa:bU (d.take (a+1))=bU (d.take a)++ [.int .i64 q,.int .i64 r]:=(by have a5:d[a]?=some (q,r):=(by rw [<-z,zAf,o,<-u,<-v];rfl);rw [zAv,a5];show bU (d.take a++ [(q,r)])=_;rw [lZ];rfl);rw [u] at U;rw [v] at V;clear m y I J s C u v o w F;go_wp2_with (at_builtin;refine bP _ rfl (.tmp 17) (.tmp 25) _ rfl e.heap.size 133 ag (.agg #[o0,o0]) 2 16 underlying78 a7 ad ae af rfl dC _ a _ rfl l rfl rfl (by simp [Value.oneCell']) zx oM H ?_;intro aj az ab E aw a3);have a4:=aX k l E H;clear E a3;exact ⟨⟨aj,_,_,⟨a+1,by omega,by go_num,by rw [aa];exact ab,a4⟩,rfl,rfl,rfl⟩,by simp [intOf];omega⟩
  .obtain rfl:a=n:=oM;have ac:d.take a=d:=zAg (by rw [A];exact zAs _);rw [ac] at l;obtain ⟨M,T,rfl,a9⟩:=aR l;clear l;go_wp2_with fail;go_ret;exact ⟨M,T,by rw [A];rfl,by rw [A];exact a9,k⟩
def vM {b R d c a} (e:PermR a b R d c):
 Calls prog 146 #[b] a (nN a c):=by
 obtain ⟨k,n,s,t,u,r,p,l,q,m,f,o,g,j,rfl⟩:=e;exact aDW f g j
def eZ (c:List (Nat×Nat)) (b:Nat) (e:Int):Prop:=(e=-1/\∀a∈c,a.2 < b)∨∃a∈c,e=((a.2:Nat):Int)/\b<=a.2/\∀d∈c,b<=d.2->a.2<=d.2
def aAs {m f n} (q:eZ m f n) (g a):eZ (m++(some (g,a)).toList) f (if f<=a/\(n < 0∨(a:Int) < n) then (a:Int) else n):=by
 have e:∀b:Nat×Nat,b∈m++(some (g,a)).toList↔b∈m∨b=(g,a):=λb=>by simp
 rcases q with ⟨rfl,l⟩|⟨k,r,rfl,l,o⟩;by_cases d:f<=a;rw [zBx ⟨d,.inl oM⟩];refine .inr ⟨(g,a),(e _).2 (.inr rfl),rfl,d,λb c j=>?_⟩;rcases (e b).1 c with c | rfl;have:=l b c;omega;exact zAs _;rw [zBw (λp=>d p.1)];refine .inl ⟨rfl,λb c=>?_⟩;rcases (e b).1 c with c | rfl;exact l b c;show a < f;omega;by_cases d:f<=a/\((k.2:Int) < 0∨(a:Int) < k.2);rw [zBx d];have s:a < k.2:=oM;refine .inr ⟨(g,a),(e _).2 (.inr rfl),rfl,d.1,λb c j=>?_⟩;rcases (e b).1 c with c | rfl;have:=o b c j;show a<=_;omega;exact zAs _;rw [zBw d];refine .inr ⟨k,(e _).2 (.inl r),rfl,l,λb c j=>?_⟩;rcases (e b).1 c with c | rfl;exact o b c j;have t:f<=a:=j;show k.2<=a;omega
def xJ (a:World) (c:List (Nat×Nat)) (e:Nat) (d:Ending) (f:World):Prop:=∃b,d=.returned (.int .i64 b)/\eZ c e b/\Below a.heap.size a f
def sV {x R I:Nat} {d} (e:Nat) {v} (q:PermR v x R I d):
 Calls prog 124 #[x,(e:Int)] v (xJ v d e):=by
 have k:=vM q;have L:=q.le;unfold nN at k;obtain ⟨o,u⟩:=eqx d.length;rw [u] at k L;clear q;unfold xJ;go_enter func124,ntmps124;go_wp2_with fail;refine k.mono ?_;rintro a0 w1 ⟨X,Z,rfl,P,A⟩;clear k;go_wp2_with fail;go_loopw [5,11] (λW i wr=>∃(a:Nat) (c:Int),a<=o/\i=.int .i64 a/\W=.int .i64 c/\eZ (d.take a) e c/\Below w1.heap.size w1 wr) (λ_ i _=>o -(intOf i).toNat)
 case atStart=>exact ⟨0,-1,zAp _,rfl,rfl,.inl ⟨rfl,λa6 T=>by simp at T⟩,kg _ _⟩
 case round=>
  obtain ⟨a,c,a2,rfl,rfl,n,g⟩:=hrel;have Q:=g.size;by_cases O:a < o
  .have D:a < d.length:=(by rw [u];exact O);have E:=P.rd.below (g.mono (B:=w1.heap.size) nL);obtain ⟨Y,a5,rfl,a1,t⟩:=E.2 oM;obtain ⟨G,H⟩:=cL d a D;have J:=t _ _ G;have K:=t _ _ H;obtain ⟨p,r⟩:=eqx (aF d a);obtain ⟨b,s⟩:=eqx (aS d a);rw [r] at J;rw [s,<-zDp] at K;have C:d[a]?=some (p,b):=(by rw [<-r,<-s];unfold aF aS;rw [zAb,zAa D];rfl);have m:∀w:Int,w=(if e<=b/\(c < 0∨(b:Int) < c) then (b:Int) else c)->eZ (d.take (a+1)) e w:=λw U=>by rw [zAv,C,U];exact aAs n p b
   have l:Below w1.heap.size w1 (wr.alloc (.cells #[(p:Int),(b:Int)] 133)):=g.alloc Q _;clear n E t G H r s C;by_cases j:e<=b
   .have V:=zBz j;by_cases y:c < 0
    .have f:eZ (d.take (a+1)) e (b:Int):=m (b:Int) (by rw [zBx ⟨j,.inl y⟩]);go_wp2_with fail;go_roundw
     case rel=>exact ⟨a+1,(b:Int),by omega,by go_num,by first | rfl | trivial,f,l⟩
     case measure=>exact zr
    .have a3:=zBy y;by_cases z:(b:Int) < c
     .have f:eZ (d.take (a+1)) e (b:Int):=m (b:Int) (by rw [zBx ⟨j,.inr z⟩]);go_wp2_with fail;go_roundw
      case rel=>exact ⟨a+1,(b:Int),by omega,by go_num,by first | rfl | trivial,f,l⟩
      case measure=>exact zr
     .have a4:=zBy z;have f:eZ (d.take (a+1)) e c:=m c (by rw [zBw oM]);go_wp2_with fail;go_roundw
      case rel=>exact ⟨a+1,c,by omega,by go_num,by first | rfl | trivial,f,l⟩
      case measure=>exact zr
   .have V:=zBy j;have f:eZ (d.take (a+1)) e c:=m c (by rw [zBw oM]);go_wp2_with fail;go_roundw
    case rel=>exact ⟨a+1,c,by omega,by go_num,by first | rfl | trivial,f,l⟩
    case measure=>exact zr
  .obtain rfl:a=o:=oM;have M:=A.trans (g.mono A.size);have F:d.take a=d:=zAg (by rw [u];exact zAs _);rw [F] at n;clear g F;go_wp2_with fail;go_ret;exact ⟨c,rfl,n,M⟩
def aFx (c:World) (e:List Nat) (b:List (Nat×Nat)) (f:Nat) (d:Ending) (g:World):Prop:=∃a,a∈e/\aS b a=f/\d=.returned (.int .i64 (aF b a:Nat))/\Below c.heap.size c g
def aDR {y m E U V W T R z d a Q D f r} (g:PermAt r y m E U V W T R z d a Q D) (H:d.length<=1099511627776) (a1:a.length<=1099511627776) (u:∃j∈d,aS a j=f):
 Calls prog 125 #[m,(f:Int)] r (aFx r d a f):=by
 have q:=kE f g H;obtain ⟨k,c,w,o,x⟩:=xZ (p:=λj=>decide (aS a j=f)) (l:=d) (by obtain ⟨j,I,J⟩:=u;exact ⟨j,I,zBz J⟩) 0;rw [w,zBi] at q;have O:aS a c=f:=of_decide_eq_true x;have a9:k < d.length:=(zAc.1 o).1;have P:c < a.length:=g.lt c (zAd o);obtain ⟨s,B,M,a5,F⟩:=kj g.t oM;obtain ⟨t,C,L,a6,G⟩:=kj g.u oM;subst M;subst L;have K:=(cL a c P).1;have a8:(k:Int) < d.length:=oM;have aa:(c:Int) < a.length:=oM;have a7:decide ((k:Int) < 0)=false:=zs
 clear w x u;unfold aFx;go_enter func125,ntmps125;go_wp2_with fail;refine q.mono ?_;rintro a0 w1 ⟨rfl,n⟩;have e:=g.below n;have X:∀b,(w1.drewN b).cell? ⟨m,1,none⟩=some (.slice (some t) a.length C):=λb=>(e.a.cell 1).trans rfl;have Y:∀b,(w1.drewN b).cell? ⟨m,2,none⟩=some (.slice (some s) d.length B):=λb=>(e.a.cell 2).trans rfl;have a4:=e.a.lt;have Z:∀b,(w1.drewN b).cell? ⟨s,k,none⟩=some (.int .i64 c):=λb=>(kh e.t k oM).trans (by rw [zAf,o];rfl);have A:∀b,(w1.drewN b).cell? ⟨t,c*2,none⟩=some (.int .i64 (aF a c:Nat)):=λb=>(kh e.u (c*2) oM).trans K;have a2:=zAl F n.size;have a3:=zAl G n.size;obtain ⟨ab,v⟩:=eqx (aF a c);rw [v] at A;clear q e;go_wp2_with fail;go_quiet (fail);go_wp2_with fail;go_ret;exact ⟨c,zAd o,O,by rw [v];rfl,km n _⟩
def aBa (b:World) (e:List (Nat×Nat)) (d:Nat) (c:Ending) (f:World):Prop:=∃a,(a,d)∈e/\c=.returned (.int .i64 a)/\Below b.heap.size b f
def vK {gp R P pr pos w} (f:PermR w gp R P pr) (k:∃d∈pr,d.2=pos):
 Calls prog 125 #[gp,(pos:Int)] w (aBa w pr pos):=by
 obtain ⟨q,s,z,A,B,y,p,e,x,r,g,t,u,v,rfl⟩:=f;have l:∃a∈p,aS e a=pos:=by obtain ⟨d,o,c⟩:=k;obtain ⟨a,b,rfl⟩:=zAy.1 o;exact ⟨a,b,c⟩
 have n:=aDR g oM oM l;refine n.mono ?_;rintro c C ⟨a,b,m,rfl,j⟩;exact ⟨_,zAy.2 ⟨a,b,by rw [m]⟩,rfl,j⟩
def aBI {gp R P pr} (a) {w} (j:PermR w gp R P pr) (f:∀r∈pr,r.2≠a):
 Calls prog 125 #[gp,(a:Int)] w λd q=>d=.returned (.int .i64 (-1))/\Below w.heap.size w q:=by
 obtain ⟨s,u,A,B,C,z,o,g,y,t,e,k,v,x,rfl⟩:=j;have b:=kE a e oM;rw [mD (p:=λc=>decide (aS g c=a)) (l:=o) (λc n=>zBy (f _ (zAy.2 ⟨c,n,rfl⟩))) 0] at b;clear e k f;go_enter func125,ntmps125;go_wp2_with fail;refine b.mono ?_;rintro d w1 ⟨rfl,m⟩;clear b;go_wp2_with fail;go_ret;exact ⟨rfl,m⟩
end
section
def aG5 {a:List Nat} (k:a.Nodup) {x:Nat} (m:x∈a) {c d:Nat->Bool} (j:∀b∈a,b≠x->c b=d b):a.countP c+(if d x then 1 else 0)=a.countP d+(if c x then 1 else 0):=by
 have f:=List.perm_cons_erase m;have l:=f.nodup_iff.1 k;have e:(a.erase x).countP c=(a.erase x).countP d:=zDy λb g=>by rw [j b (List.mem_of_mem_erase g) (λe=>(zDe.1 l).1 (e ▸ g))]
 rw [f.countP_eq,f.countP_eq,zBn,zBn,e];omega
def aN2 {R} (d:R.Nodup) {a} (e:a∈R):R.countP (λf=>decide (ro R f < ro R a))=ro R a:=by
 have b:=aB2 d (ro R a) (λ_=>true);have c:(R.take (ro R a)).countP (λ_=>true)=(R.take (ro R a)).length:=zDJ.2 λ_ _=>rfl;rw [c,zAj] at b;have g:ro R a < R.length:=zDk.2 e;rw [zCu oM] at b;simp only [zDO] at b;exact b.symm
def aL3 (c d b:Nat):Nat:=let a:=if d < b then c - 1 else c;if b<=a then a+1 else a
section
variable {S R : List Nat} {N i : Nat}
def aK7 (c:Near S R N (i+2)) (B:i+1 < N):(if S.getD (i+1) 0=S.getD i 0 then aL3 (cR (aH S R) (S.getD i 0) (ro R (i+1))) (ro R (i+2)) (ro R (i+1)) else cR (aH S R) (S.getD i 0) (ro R (i+1)))=ro R i/\
 (S.getD (i+1) 0=S.getD i 0->ro R (i+2) < ro R (i+1)->0 < cR (aH S R) (S.getD i 0) (ro R (i+1))):=by
 have t:=c.nodup;have l:∀a,a<=N->a∈R:=λa m=>c.mem.2 m;have n:∀a e,a<=N->e<=N->a≠e->ro R a≠ro R e:=λa e m v u g=>u (fL (l a m) (l e v) g);have r:=c.ba.pos i oM;rw [uM c.ba c.perm r];have p:(List.range (N+1)).countP (λa=>decide (ro R a < ro R i))=ro R i:=by rw [<-c.perm.countP_eq];exact aN2 t (l i oM)
 have q:∀d∈List.range (N+1),d≠i+1->decide (ro R d < ro R i)=decide (S.getD d 0 < S.getD i 0∨(S.getD d 0=S.getD i 0/\ro R (d+1) < ro R (i+1))):=λd w E=>by rw [zCj] at w;rw [decide_eq_decide];by_cases o:d=i;subst o;omega;exact c.cons d i oM oM o oM oM
 have b:=aG5 zDl (x:=i+1) zt q;rw [p] at b;unfold aDc;generalize D:List.countP (λa=>decide (S.getD a 0 < S.getD i 0∨(S.getD a 0=S.getD i 0/\ro R (a+1) < ro R (i+1)))) (List.range (N+1))=n0 at b⊢;have C:=n i (i+1) oM oM oM;have A:=n (i+2) (i+1) oM oM oM;have y:=c.a9 (i+1) i oM oM;have z:=c.a9 i (i+1) oM oM;simp only [zCa,show i+1+1=i+2 by omega] at b;by_cases k:S.getD (i+1) 0=S.getD i 0
 .have j:(S.getD (i+1) 0 < S.getD i 0∨(S.getD (i+1) 0=S.getD i 0/\ro R (i+2) < ro R (i+1)))↔ro R (i+2) < ro R (i+1):=oM;simp only [j] at b;rw [zBx k];unfold aL3;refine ⟨?_,λ_ s=>?_⟩
  .by_cases f:ro R (i+2) < ro R (i+1)
   .rw [zBx f] at b;simp only [zBx f];split at b <;> split <;> omega
   .rw [zBw f] at b;simp only [zBw f];split at b <;> split <;> omega
  .rw [zBx s] at b;split at b <;> omega
 have j:(S.getD (i+1) 0 < S.getD i 0∨(S.getD (i+1) 0=S.getD i 0/\ro R (i+2) < ro R (i+1)))↔ro R (i+1) < ro R i:=oM;simp only [j] at b;rw [zBw k];exact ⟨by omega,λg=>absurd g k⟩
def sh (b a:Nat):Nat:=if a < b then a else a+1
def aGk {b c d} (a:sh b c=sh b d):c=d:=by unfold sh at a;split at a <;> split at a <;> omega
def aB7 (a b):sh a b≠a:=by unfold sh;split <;> omega
def nV {b a} (e:a≠b):∃d,sh b d=a:=by
 by_cases c:a < b;exact ⟨a,by unfold sh;rw [zBx c]⟩;exact ⟨a - 1,by unfold sh;rw [zBw oM];omega⟩
def oH (b) {c} (d) (e:c<=b.length) (a):(aT b c d).getD a 0=if a < c then b.getD a 0 else if a=c then d else b.getD (a - 1) 0:=by
 rw [zAb,jX b d e];split
 .rw [zAb]
 .split;rfl
  .rw [zAb]
def aNk {b c} (d:c < b.length) (a):(aK b c).getD a 0=if a < c then b.getD a 0 else b.getD (a+1) 0:=by
 rw [zAb,eQ d];split
 .rw [zAb]
 .rw [zAb]
def oG (c) {b} (e a) (f:b<=c.length):(aT c b e).getD (sh b a) 0=c.getD a 0:=by
 rw [oH c e f];by_cases d:a < b
 .rw [show sh b a=a by unfold sh;rw [zBx d],zBx d]
 .rw [show sh b a=a+1 by unfold sh;rw [zBw d],zBw oM,zBw oM,zBb]
def aAt (b) {a} (c) (d:a<=b.length):(aT b a c).getD a 0=c:=by
 rw [oH b c d,zBw oM,zBx rfl]
def aKB {R} (l:R.Nodup) {at_ row} (n:row<=R.length):ro (aT (R.map (sh at_)) row at_) at_=row/\(∀a∈R,ro (aT (R.map (sh at_)) row at_) (sh at_ a)=inR (ro R a) row)/\(aT (R.map (sh at_)) row at_).Nodup:=by
 have e:row<=(R.map (sh at_)).length:=by simpa using n
 have b:(aT (R.map (sh at_)) row at_).Nodup:=by rw [(fU _ _ _).nodup_iff,zDe];refine ⟨λk=>?_,zDm.2 (l.imp λg j=>g (aGk j))⟩;obtain ⟨a,_,f⟩:=zAy.1 k;exact aB7 _ _ f
 refine ⟨gR b ?_,λa m=>gR b ?_,b⟩
 .rw [jX _ _ e,zBw oM,zBx rfl]
 rw [jX _ _ e];have d:=cE m;unfold inR;by_cases c:row<=ro R a;rw [zBx c,zBw oM,zBw oM,zBb,zAf,d];rfl;rw [zBw c,zBx oM,zAf,d];rfl
def aNb (f:EndOk S N) {a c} (k:a<=N) (g:0 < c):EndOk (aT S a c) (N+1):=by
 obtain ⟨d,e,b⟩:=f;refine ⟨by rw [cM _ _ oM,d],?_,λj l=>?_⟩
 .rw [oH _ _ oM,zBw oM,zBw oM,zBb,e]
 rw [oH _ _ oM];split;exact b j oM;split;exact g;exact b _ oM
def aKU {R:List Nat} (c:R.Perm (List.range (N+1))) {a:Nat} (row:Nat) (n:a<=N):(aT (R.map (sh a)) row a).Perm (List.range (N+1+1)):=by
 refine (List.perm_ext_iff_of_nodup ?_ zDl).2 λm=>?_;rw [(fU _ _ _).nodup_iff,zDe];refine ⟨λk=>?_,zDm.2 ((c.nodup_iff.2 zDl).imp λg j=>g (aGk j))⟩;obtain ⟨d,_,f⟩:=zAy.1 k;exact aB7 _ _ f
 .rw [(fU _ _ _).mem_iff,zDf,zAy,zCj];constructor
  .rintro (rfl |⟨d,l,rfl⟩);omega
   .have:=zCj.1 (c.mem_iff.1 l);unfold sh;split <;> omega
  .intro e;by_cases b:m=a;exact .inl b
   .obtain ⟨d,rfl⟩:=nV b;refine .inr ⟨d,c.mem_iff.2 (zCj.2 ?_),rfl⟩;unfold sh at e b;split at e <;> omega
def aLb (a2:IsSuf S R) (r:EndOk S N) {c s} (u:c<=N) (Y:0 < s):cR (aH S R) s (ro R c)<=R.length/\Near (aT S c s) (aT (R.map (sh c)) (cR (aH S R) s (ro R c)) c) (N+1) c:=by
 have m:=a2.P r;have H:=m.nodup;have l:∀d,d<=N->d∈R:=λd n=>m.mem.2 n;obtain ⟨row,X⟩:=eqx (cR (aH S R) s (ro R c));have Q:R.countP (λd=>decide (S.getD d 0 < s∨(S.getD d 0=s/\ro R (d+1) < ro R c)))=row:=by rw [<-X,uM r m.perm Y,m.perm.countP_eq];rfl
 rw [X];have T:row<=R.length:=by rw [<-Q];exact zBh
 have A:∀d,d<=N->(decide (S.getD d 0 < s∨(S.getD d 0=s/\ro R (d+1) < ro R c))=true↔ro R d < row):=λd n=>by rw [<-Q];refine aC2 (K:=λd=>decide (S.getD d 0 < s∨(S.getD d 0=s/\ro R (d+1) < ro R c))) ?_ _ _ (cE (l d n));rw [zAr];intro w x M P aa k;have a7:ro R R[w]=w:=gR H (zAa M);have a8:ro R R[x]=x:=gR H (zAa P);have a3:R[w]<=N:=m.mem.1 (zBj M);have a4:R[x]<=N:=m.mem.1 (zBj P);have z:=(m.cons R[w] R[x] a3 a4 (λj=>by rw [j,a8] at a7;omega) oM oM).1 oM;unfold wP at z;rw [zCa] at k⊢;omega
 obtain ⟨E,q,ab⟩:=aKB H (at_:=c) T;have a9:=r.len;refine ⟨T,aNb r u Y,aKU m.perm row u,λd v n o g=>?_,λd v n o W V B=>?_⟩
 .by_cases t:d=c
  .subst t;by_cases p:v=d;subst p;omega
   .obtain ⟨b,rfl⟩:=nV p;have e:b<=N:=(by unfold sh at o;split at o <;> omega);rw [E,q b (l b e)] at g;rw [aAt _ _ oM,oG _ _ _ oM];have k:=A b e;rw [zCa] at k;unfold inR at g;split at g <;> omega
  .obtain ⟨a,rfl⟩:=nV t;have f:a<=N:=(by unfold sh at n;split at n <;> omega);by_cases p:v=c
   .subst p;rw [E,q a (l a f)] at g;rw [aAt _ _ oM,oG _ _ _ oM];have k:=A a f;rw [zCa] at k;unfold inR at g;split at g <;> omega
   .obtain ⟨b,rfl⟩:=nV p;have e:b<=N:=(by unfold sh at o;split at o <;> omega);rw [q a (l a f),q b (l b e)] at g;rw [oG _ _ _ oM,oG _ _ _ oM];refine m.a9 a b f e ?_;unfold inR at g;split at g <;> split at g <;> omega
 .have C:∀a,a<=N->sh c a+1≠c->a < N->sh c a+1=sh c (a+1):=λa f z _=>by unfold sh at z⊢;by_cases Z:a < c <;> by_cases a0:a+1 < c <;> simp only [Z,a0,if_true,if_false] at z⊢<;> omega
  have O:c+1=sh c c:=(by unfold sh;rw [zBw oM]);have D:∀a b,a<=N->b<=N->(ro (aT (R.map (sh c)) row c) (sh c a) < ro (aT (R.map (sh c)) row c) (sh c b)↔ro R a < ro R b):=λa b f e=>by rw [q a (l a f),q b (l b e)];unfold inR;split <;> split <;> omega
  have y:∀F,F<=N->S.getD F 0≠0->F < N:=λF a6 U=>zFO a6 λj=>by subst j;exact U r.last
  unfold wP;by_cases t:d=c
  .subst t;obtain ⟨b,rfl⟩:=nV (λj=>W j.symm);have e:b<=N:=(by unfold sh at o;split at o <;> omega);rw [E,q b (l b e),aAt _ _ oM,oG _ _ _ oM];have k:=A b e;rw [zCa] at k;have g:row < inR (ro R b) row↔¬ro R b < row:=(by unfold inR;split <;> omega);rw [g,<-k];by_cases L:S.getD b 0=s
   .have J:=y b e oM;rw [C b e B J,O,D d (b+1) u oM];have:=λj=>fL (l (b+1) oM) (l d u) j;have U:ro R (b+1)≠ro R d:=λj=>by have:=this j;unfold sh at B;split at B <;> omega
    omega
   omega
  .obtain ⟨a,rfl⟩:=nV t;have f:a<=N:=(by unfold sh at n;split at n <;> omega);by_cases p:v=c
   .subst p;rw [E,q a (l a f),aAt _ _ oM,oG _ _ _ oM];have k:=A a f;rw [zCa] at k;have g:inR (ro R a) row < row↔ro R a < row:=(by unfold inR;split <;> omega);rw [g,<-k];by_cases L:S.getD a 0=s
    .have I:=y a f oM;rw [C a f V I,O,D (a+1) v oM u]
    omega
   .obtain ⟨b,rfl⟩:=nV p;have e:b<=N:=(by unfold sh at o;split at o <;> omega);have a5:a≠b:=λj=>W (by rw [j]);rw [D a b f e,oG _ _ _ oM,oG _ _ _ oM,m.cons a b f e a5 oM oM];unfold wP;by_cases L:S.getD a 0=S.getD b 0
    .by_cases a1:S.getD a 0=0;have ac:a=N:=zFo f (zCs.1 λG=>by have:=r.pos a G;omega);have ad:b=N:=zFo e (zCs.1 λG=>by have:=r.pos b G;omega);omega
     .have I:=y a f a1;have J:=y b e oM;rw [C a f V I,C b e B J,D (a+1) (b+1) oM oM]
    omega
def aI2 (r:R.Nodup) (m:R.Perm (List.range (N+1))) (p:EndOk S N) {b s row} (v:b<=N) (y:row<=R.length):aH (aT S b s) (aT (R.map (sh b)) row b)=aT ((aH S R).set (ro R b) s) row (bS S b):=by
 have e:=p.len;have j:(aT S b s).length=N+1+1:=by rw [cM _ _ oM,e]
 have q:∀a,a∈R->a<=N:=λa t=>by have:=zCj.1 (m.mem_iff.1 t);omega
 have k:b∈R:=m.mem_iff.2 (zCj.2 oM);unfold aH;rw [qB];congr 1
 .apply zDs;intro n;rw [zAf,zAf,zBm,zAf];cases c:R[n]? with
  | none=>
   simp;intro d;subst d;rw [cE k] at c;cases c
  | some a=>
   have x:=q a (zAd c);have l:ro R a=n:=gR r c;show some (bS (aT S b s) (sh b a))=_;by_cases f:a=b
   .subst f;rw [zBx l,zBx (by simpa using (zAc.1 (l ▸ c)).1)];congr 1;rw [show sh a a=a+1 by unfold sh;rw [zBw oM],bL oM,aAt _ _ oM]
   .rw [zBw (λd=>f (by have g:=cE k;rw [d,c] at g;injection g))];show some _=some (bS S a);congr 1;rcases a with _ | a
    .rw [show sh b 0=0 by unfold sh;rw [zBx oM],bV oM,bV oM,j,e,zBb,zBb,oH _ _ oM,zBw oM,zBw oM,zBb]
    .have o:sh b (a+1)=sh b a+1:=(by unfold sh;split <;> split <;> omega);have w:sh b a+1 < N+1+1:=(by unfold sh;split <;> omega);rw [o,bL oM,bL oM,oG _ _ _ oM]
 .rcases b with _ | u
  .rw [bV oM,bV oM,j,e,zBb,zBb,oH _ _ oM,zBw oM,zBw oM,zBb]
  .rw [bL oM,bL oM,oH _ _ oM,zBx oM]
def aGL {a c b} (d:R[a]?=some b):aH S (aT (aK R a) c b)=aT (aK (aH S R) a) c (bS S b):=by
 unfold aH;rw [qB,uY]
end
section
variable {S R : List Nat} {N : Nat}
def ush (b a:Nat):Nat:=if a < b then a else a - 1
def aJ1 (a b):ush a (sh a b)=b:=by
 unfold ush sh
 (repeat' split)<;> omega
def aGj {k a} (b:a≠k):sh k (ush k a)=a:=by
 unfold ush sh
 (repeat' split)<;> omega
def lO (b) {a} (c) (d:a < b.length):(aK b a).getD c 0=b.getD (sh a c) 0:=by
 rw [aNk d];unfold sh;split <;> rfl
def aNj (d:EndOk S (N+1)) {a} (f:a<=N):EndOk (aK S a) N:=by
 obtain ⟨e,b,c⟩:=d;have g:=cJ (l:=S) (k:=a) oM;refine ⟨by omega,?_,λm j=>?_⟩;rw [lO _ _ oM];unfold sh;rw [zBw oM];exact b
 .rw [lO _ _ oM];refine c _ ?_;unfold sh;split <;> omega
def aDg (m:R.Perm (List.range (N+1+1))) {b} (t:b<=N):(b::aK R (ro R b)).Perm R/\(aK R (ro R b)).Nodup/\(∀a∈R,a≠b->(aK R (ro R b))[bN (ro R a) (ro R b)]?=some a)/\∀a,a∈aK R (ro R b)↔a∈R/\a≠b:=by
 have r:R.Nodup:=m.nodup_iff.2 zDl;have l:b∈R:=m.mem_iff.2 (zCj.2 oM);have j:=cE l;have q:=(zAc.1 j).1;have d:=fH j;have f:=d.nodup_iff.2 r;rw [zDe] at f;refine ⟨d,f.2,λa n s=>?_,λa=>?_⟩;have k:=cE n;have u:ro R a≠ro R b:=λe=>s (fL n l e);rw [eQ q];unfold bN;by_cases g:ro R b < ro R a;rw [zBx g,zBw oM,show ro R a - 1+1=ro R a by omega];exact k;rw [zBw g,zBx oM];exact k;constructor;intro c;exact ⟨d.mem_iff.1 (zEv _ c),λe=>f.1 (e ▸ c)⟩;rintro ⟨o,p⟩;rcases zDf.1 (d.mem_iff.2 o) with c | c;exact absurd c p;exact c
def aKC (e:R.Perm (List.range (N+1+1))) {at_} (r:at_<=N):((aK R (ro R at_)).map (ush at_)).Perm (List.range (N+1))/\∀a,a<=N->ro ((aK R (ro R at_)).map (ush at_)) a=bN (ro R (sh at_ a)) (ro R at_):=by
 obtain ⟨v,p,q,b⟩:=aDg e r;have g:((aK R (ro R at_)).map (ush at_)).Nodup:=by refine zDm.2 (p.imp_of_mem λ{c l} d t s m=>s ?_);have n:=aGj (k:=at_) ((b c).1 d).2;have o:=aGj (k:=at_) ((b l).1 t).2;rw [<-n,<-o,m]
 have f:∀a,a<=N->sh at_ a∈R:=λa w=>e.mem_iff.2 (zCj.2 (by unfold sh;split <;> omega));refine ⟨(List.perm_ext_iff_of_nodup g zDl).2 λj=>?_,λa u=>?_⟩
 .rw [zAy,zCj];constructor
  .rintro ⟨c,d,rfl⟩;have:=zCj.1 (e.mem_iff.1 ((b c).1 d).1);have:=((b c).1 d).2;unfold ush;split <;> omega
  intro x;exact ⟨sh at_ j,(b _).2 ⟨f j oM,aB7 _ _⟩,aJ1 _ _⟩
 .refine gR g ?_;rw [zAf,q _ (f a u) (aB7 _ _)];show some (ush at_ (sh at_ a))=some a;rw [aJ1]
def aLc (x:IsSuf S R) (j:EndOk S (N+1)) {at_} (q:at_<=N):Near (aK S at_) ((aK R (ro R at_)).map (ush at_)) N at_:=by
 have k:=x.P j;have I:=j.len;obtain ⟨w,o⟩:=aKC k.perm q;have l:∀a,a<=N+1->a∈R:=λa d=>k.mem.2 d;have f:∀a,a<=N->sh at_ a<=N+1:=λa d=>by unfold sh;split <;> omega
 have m:∀a b,a<=N->b<=N->(ro ((aK R (ro R at_)).map (ush at_)) a < ro ((aK R (ro R at_)).map (ush at_)) b↔ro R (sh at_ a) < ro R (sh at_ b)):=λa b d e=>by rw [o a d,o b e];have K:ro R (sh at_ a)≠ro R at_:=λg=>aB7 _ _ (fL (l _ (f a d)) (l at_ oM) g);have L:ro R (sh at_ b)≠ro R at_:=λg=>aB7 _ _ (fL (l _ (f b e)) (l at_ oM) g);unfold bN;split <;> split <;> omega
 refine ⟨aNj j q,w,λa b d e B=>?_,λa b d e E D F=>?_⟩;rw [lO _ _ oM,lO _ _ oM];exact k.a9 _ _ (f a d) (f b e) ((m a b d e).1 B)
 .have C:sh at_ a≠sh at_ b:=λg=>E (aGk g);rw [m a b d e,k.cons _ _ (f a d) (f b e) C oM oM];unfold wP;rw [lO _ _ oM,lO _ _ oM];by_cases H:S.getD (sh at_ a) 0=S.getD (sh at_ b) 0
  .by_cases n:S.getD (sh at_ a) 0=0;have u:∀c,c<=N+1->S.getD c 0=0->c=N+1:=λc s t=>zFo s (zCs.1 λA=>by have:=j.pos c A;omega);have M:=u _ (f a d) n;have O:=u _ (f b e) oM;omega
   .have r:∀c,c<=N->c+1≠at_->S.getD (sh at_ c) 0≠0->c < N/\sh at_ c+1=sh at_ (c+1):=λc s J t=>by have y:sh at_ c≠N+1:=λg=>t (by rw [g];exact j.last);have z:c < N:=(by rcases zBe c N with p | p;exact p;exfalso;apply y;unfold sh;rw [zBw oM];omega);refine ⟨z,?_⟩;unfold sh;split <;> split <;> omega
    obtain ⟨G,v⟩:=r a d D n;obtain ⟨b1,b2⟩:=r b e F oM;rw [v,b2,m (a+1) (b+1) oM oM]
  omega
def aI3 (e:R.Perm (List.range (N+1+1))) (t:EndOk S (N+1)) {at_} (B:at_<=N):aH (aK S at_) ((aK R (ro R at_)).map (ush at_))=aK ((aH S R).set (ro R (at_+1)) (bS S at_)) (ro R at_):=by
 have x:R.Nodup:=e.nodup_iff.2 zDl;have A:=t.len;have C:=cJ (l:=S) (k:=at_) oM;have w:∀a,a∈R->a<=N+1:=λa g=>by have:=zCj.1 (e.mem_iff.1 g);omega
 have s:at_∈R:=e.mem_iff.2 (zCj.2 oM);have o:at_+1∈R:=e.mem_iff.2 (zCj.2 oM);have p:=(zAc.1 (cE s)).1;have y:∀a,a<=N+1->a≠at_->bS (aK S at_) (ush at_ a)=if a=at_+1 then bS S at_ else bS S a:=λa D q=>by
  by_cases b:a=at_+1
  .subst b;rw [zBx rfl,show ush at_ (at_+1)=at_ by unfold ush;rw [zBw oM];omega];rcases at_ with _ | z;rw [bV oM,bV oM,lO _ _ oM];unfold sh;rw [zBw oM];congr 1;omega
   .rw [bL oM,bL oM,lO _ _ oM];unfold sh;rw [zBx oM]
  .rw [zBw b];rcases a with _ | a;rw [show ush at_ 0=0 by unfold ush;split <;> omega,bV oM,bV oM,lO _ _ oM];unfold sh;rw [zBw oM];congr 1;omega
   .by_cases n:a+1 < at_
    .rw [show ush at_ (a+1)=a+1 by unfold ush;rw [zBx n],bL oM,bL oM,lO _ _ oM];unfold sh;rw [zBx oM]
    .obtain ⟨f,rfl⟩:∃f,a=f+1:=⟨a - 1,by omega⟩;rw [show ush at_ (f+1+1)=f+1 by unfold ush;rw [zBw n];omega,bL oM,bL oM,lO _ _ oM];unfold sh;rw [zBw oM]
 unfold aH;rw [zCh];apply zDs;intro m;have v:ro R at_ < ((R.map (bS S)).set (ro R (at_+1)) (bS S at_)).length:=by simpa using p
 rw [zAf,eQ p,eQ v];have r:∀i,i≠ro R at_->Option.map (bS (aK S at_)∘ ush at_) R[i]?=((R.map (bS S)).set (ro R (at_+1)) (bS S at_))[i]?:=λi u=>by
  rw [zBm,zAf];cases c:R[i]? with
  | none=>
   have:¬ro R (at_+1)=i:=λd=>by rw [<-d,cE o] at c;cases c
   rw [zBw this];rfl
  | some a=>
   have g:=zAd c;have j:=gR x c;have q:a≠at_:=λd=>u (by rw [<-j,d]);show some (bS (aK S at_) (ush at_ a))=_;rw [y a (w a g) q];by_cases b:a=at_+1
   .subst b;rw [zBx rfl,zBx j,zBx (by rw [j];simpa using (zAc.1 c).1)]
   rw [zBw b,zBw (λd=>b ?_)];rfl;rw [<-d,cE o] at c;injection c with c;exact c.symm
 by_cases b:m < ro R at_;rw [zBx b,zBx b];exact r m oM;rw [zBw b,zBw b];exact r (m+1) oM
end
end
section
open Go.RowKit
def iW (a b:Nat) (e:a < 4294967296) (f:b < 4294967296):bits .xor .u32 (a:Int) (b:Int)=((a ^^^ b:Nat):Int):=by
 have g:a ^^^ b < 2 ^ 32:=zEg oM oM;have c:(BitVec.ofInt 32 (a:Int)).toNat=a:=by rw [zDQ,zDG];exact zBu oM
 have d:(BitVec.ofInt 32 (b:Int)).toNat=b:=by rw [zDQ,zDG];exact zBu oM
 show IntKind.u32.wrap ((BitVec.ofInt 32 (a:Int)^^^ BitVec.ofInt 32 (b:Int)).toNat:Int)=_;rw [zGs,c,d,IntKind.wrap_u32];omega
def aE5 (a:Nat) {b:Nat} (e:a < 256) (f:b < 256):bits .xor .u8 (a:Int) (b:Int)=((a ^^^ b:Nat):Int):=by
 have g:a ^^^ b < 2 ^ 8:=zEg oM oM;have c:(BitVec.ofInt 8 (a:Int)).toNat=a:=by rw [zDQ,zDG];exact zBu oM
 have d:(BitVec.ofInt 8 (b:Int)).toNat=b:=by rw [zDQ,zDG];exact zBu oM
 show IntKind.u8.wrap ((BitVec.ofInt 8 (a:Int)^^^ BitVec.ofInt 8 (b:Int)).toNat:Int)=_;rw [zGs,c,d,IntKind.wrap_u8];omega
def oL {a:Nat} (d:a < 4294967296):bits .and .u32 (a:Int) 1=((a % 2:Nat):Int):=by
 have b:(BitVec.ofInt 32 (a:Int)).toNat=a:=by rw [zDQ,zDG];exact zBu oM
 show IntKind.u32.wrap ((BitVec.ofInt 32 (a:Int)&&& BitVec.ofInt 32 (1:Int)).toNat:Int)=_;rw [zGt,b];have c:(BitVec.ofInt 32 (1:Int)).toNat=1:=dC;rw [c,IntKind.wrap_u32,zEN];omega
def aFT {a:Nat} (j:a < 4294967296) (d):
 Calls prog 235 #[.int .u32 a,false] d λe k=>e=.returned (.int .u32 (cX a:Nat))/\Below d.heap.size d k:=by
 have l:=oL j;go_enter func235,ntmps235;go_wp2_with fail
 .go_ret;refine ⟨?_,kg _ _⟩
  rename_i b
  have c:a % 2=1:=(zj (eq_of_beq b));have f:((a:Int)/ 2)=((a / 2:Nat):Int):=oM;have g:(3988292384:Int)=(3988292384:Nat):=rfl;show Ending.returned (Value.int .u32 (bits .xor .u32 ((a:Int)/ 2) 3988292384))=_;rw [f,g,iW _ _ oM oM,cX,zBx c]
 .go_ret;refine ⟨?_,kg _ _⟩
  rename_i b
  have c:¬a % 2=1:=(by intro m;have:((a:Int)% 2==1)=true:=zCr.2 oM;rw [this] at b;cases b);show Ending.returned (Value.int .u32 ((a:Int)/ 2))=_;rw [cX,zBw c];rfl
def aBw (i b:Nat):Nat->Nat:=λa=>if a < i then kJ a else if a=i then b else 0
def aKa (i e d):(λb=>if b=i then d else aBw i e b)=aBw i d:=by
 funext b;unfold aBw;by_cases a:b=i
 .rw [zBx a,zBw oM,zBx a]
 .rw [zBw a];by_cases c:b < i
  .rw [zBx c,zBx c]
  .rw [zBw c,zBw c,zBw a,zBw a]
def aIo (i):aBw i (kJ i)=aBw (i+1) 0:=by
 funext p;unfold aBw;by_cases a:p < i
 .rw [zBx a,zBx oM]
 .rw [zBw a];by_cases b:p=i
  .subst b;rw [zBx rfl,zBx oM]
  .rw [zBw b,zBw oM];split <;> rfl
@[irreducible] def crcC:Array Value:=lW .u32 256 kJ
@[irreducible] def tabC (i c:Nat):Array Value:=lW .u32 256 (aBw i c)
def aEg {i c a:Nat} (b:i < 256):(tabC i c).setIfInBounds i (.int .u32 a)=tabC i a:=by
 unfold tabC;rw [nJ b,aKa]
def zS {i a} (b:i < 256):(tabC i a)[i]?=some (.int .u32 a):=by
 unfold tabC;rw [gX b];unfold aBw;rw [zBw oM,zBx rfl]
def aIq (i):tabC i (eB 8 i)=tabC (i+1) 0:=by
 unfold tabC;rw [<-aIo];rfl
def aB3:Array.replicate 256 (Value.int .u32 0)=tabC 0 0:=by
 unfold tabC;rw [rX];exact dP λi a=>by unfold aBw;rw [zBw oM];split <;> rfl
def aKb (b):tabC 256 b=crcC:=by
 unfold tabC crcC;exact dP λi a=>by unfold aBw;rw [zBx a]
def aLS {i} (a:i < 256):crcC[i]?=some (.int .u32 (kJ i:Nat)):=by
 unfold crcC;exact gX a
def rV:crcC.size=256:=by unfold crcC;exact nI _ _ _
def aIp (i a):(tabC i a).size=256:=by unfold tabC;exact nI _ _ _
def aIm {b a d c} (k:d.getD 0 undef=.pointer (some c)) (g:Bk a c 221 crcC) (l:(prog.info? 221).map (·.size)=some crcC.size) (j:Below b.heap.size b a):
 bodyPost prog f202 (λe a=>e=.returned (.agg crcC)/\Below b.heap.size b a) .ret ⟨d, []⟩ a:=
 bodyPost_ret (results_cell_row (P:=prog) (fn:=f202) (p:=0) (ty:=221) rfl d a c 221 crcC (0,0) _ k g underlying221 rfl l) rfl ⟨rfl,j⟩
def aJW {a:Nat} (d:a < 4294967296):bits .xor .u32 IntKind.u32.max (a:Int)=((4294967295 - a:Nat):Int):=by
 have b:IntKind.u32.max=(4294967295:Nat):=dC;rw [b,iW _ _ oM d];congr 1;have c:(4294967295:Nat)^^^ a=(BitVec.allOnes 32 ^^^ BitVec.ofNat 32 a).toNat:=by rw [zGs,zDG,zBu (by omega:a < 2 ^ 32)];rfl
 rw [c,BitVec.allOnes_xor,BitVec.toNat_not,zDG,zBu (by omega:a < 2 ^ 32)]
def aD6 (b):
 Calls prog 202 #[] b λs y=>s=.returned (.agg crcC)/\Below b.heap.size b y:=by
 go_enter func202,ntmps202;go_wp2_with fail;go_loopw [3] (λi wr=>∃(a:Nat) (j:Nat),a<=256/\i=.int .i64 a/\Bk wr b.heap.size 221 (tabC 0 0)/\Bk wr (b.heap.size+1) 221 (tabC a j)/\(a < 256->j=0)/\Below b.heap.size b wr) (λi _=>256 -(intOf i).toNat)
 case atStart=>refine ⟨0,0,by omega,rfl,?_,?_,λ_=>rfl,?_⟩;rw [<-aB3];exact (kd _ _ _).alloc _;rw [<-aB3];have t:=kd (b.alloc (.cells Tryz.zeroCells221 221)) 221 Tryz.zeroCells221;rw [show (b.alloc (.cells Tryz.zeroCells221 221)).heap.size=b.heap.size+1 by simp] at t;exact t;exact (bR.alloc nL _).alloc zs _
 case round=>
  obtain ⟨a,j,I,rfl,k,e,g,u⟩:=hrel;by_cases d:a < 256
  .have x:=g d;subst x;have F:((a:Int) < 256):=oM;have A:wr.cell? ⟨b.heap.size+1,a,none⟩=some (.int .u32 0):=(e.cell a).trans (zS d);have D:=e.frozen a;go_wp2_with fail;go_loopw [10] (λi r=>∃c:Nat,c<=8/\i=.int .i64 c/\Bk r b.heap.size 221 (tabC 0 0)/\Bk r (b.heap.size+1) 221 (tabC a (eB c a))/\Below b.heap.size b r) (λi _=>8 -(intOf i).toNat)
   case atStart=>refine ⟨0,by omega,rfl,k.m zs _,?_,u.setCell zs _⟩;have:=e.set a (.int .u32 a);rw [aEg d] at this;exact this
   case round=>
    obtain ⟨c,G,rfl,n,f,m⟩:=hrel;by_cases J:c < 8
    .have H:((c:Int) < 8):=oM;have B:wr.cell? ⟨b.heap.size+1,a,none⟩=some (.int .u32 (eB c a:Nat)):=(f.cell a).trans (zS d);go_wp2_with fail;refine (aFT (uZ oM c) _).mono ?_;rintro s z ⟨rfl,l⟩;have o:=f.below l f.lt;have v:=n.below l n.lt;have C:z.cell? ⟨b.heap.size+1,a,none⟩=some (.int .u32 (eB c a:Nat)):=(o.cell a).trans (zS d);have E:=o.frozen a;go_wp2_with fail;go_roundw
     case rel=>refine ⟨c+1,by omega,by go_num,v.m zs _,?_,(m.trans (l.mono m.size)).setCell zs _⟩;have:=o.set a (.int .u32 (cX (eB c a):Nat));rw [aEg d] at this;exact this
     case measure=>exact zr
    .have p:c=8:=oM;subst p;go_wp2_with fail;go_roundw
     case rel=>rw [aIq] at f;exact ⟨a+1,0,by omega,by go_num,n,f,λ_=>rfl,m⟩
     case measure=>exact zr
  .have p:a=256:=oM;subst p;rw [aKb] at e;have q:(prog.info? 221).map (·.size)=some crcC.size:=(by rw [rV];kernel_rfl);have w:crcC.all (·.oneCell')=true:=(by unfold crcC lW;rw [zFQ];intro j g;rw [List.mem_toArray,zAy] at g;obtain ⟨K,_,rfl⟩:=g;rfl);go_wp2_with (first |(refine wpList_load_row (P:=prog) rfl 221 (.tmp 1) rfl (b.heap.size+1) rfl 221 crcC (0,0) _ e underlying221 rfl q ?_)|(refine wpList_store_row (P:=prog) rfl 221 (.tmp 0) (.tmp 20) rfl b.heap.size crcC rfl rfl 221 (tabC 0 0) k q (by rw [aIp,rV]) w ?_));exact aIm rfl (setRow_heap wr b.heap.size _ crcC _ _ k) q (below_setRow u nL _)
def aFU (f:Nat) (D:f < 4294967296) {p} {e:Nat} (x:Nat) {b g} (u:Rd g g.heap.size 1 p e (b.map bv)) (T:e<=1099511627776):
 Calls prog 144 #[.int .u32 f,.slice p e x] g λq I=>q=.returned (.int .u32 (aDi f b:Nat))/\Below g.heap.size g I:=by
 have O:b.length=e:=by have:=u.1;simpa using this
 have F:(prog.info? 221).map (·.size)=some crcC.size:=by rw [rV];kernel_rfl
 have C:crcC.all (·.oneCell')=true:=by unfold crcC lW;rw [zFQ];intro c k;rw [List.mem_toArray,zAy] at k;obtain ⟨V,_,rfl⟩:=k;rfl
 go_enter func144,ntmps144;go_wp2_with fail;refine (aD6 _).mono ?_;rintro q w1 ⟨rfl,s⟩;go_wp2_with (refine wpList_store_row (P:=prog) rfl 221 (.tmp 5) (.tmp 8) rfl w1.heap.size crcC rfl rfl 221 Tryz.zeroCells221 (heap_alloc_new _ _) F (by rw [rV];kernel_rfl) C ?_;rw [World.setRow_alloc_new]);rw [aJW D];have A:=s.size;go_loopw [0,13] (λc i wr=>∃a:Nat,a<=e/\i=.int .i64 a/\c=.int .u32 (mE (b.take a) (4294967295 - f):Nat)/\Bk wr w1.heap.size 221 crcC/\Below g.heap.size g wr) (λ_ i _=>e -(intOf i).toNat)
 case atStart=>exact ⟨0,by omega,rfl,by rw [zDN];rfl,kd _ _ _,s.alloc A _⟩
 case round=>
  obtain ⟨a,Q,rfl,rfl,t,n⟩:=hrel;by_cases B:a < e
  .obtain ⟨J,U,W,rfl,M,j,y⟩:=(u.below n).get B;rw [zAf] at j;obtain ⟨d,w⟩:∃d,b[a]?=some d:=⟨_,zAa oM⟩;rw [w] at j;injection j with j;subst j;have E:b.take (a+1)=b.take a++ [d]:=(by rw [zAv,w];rfl);have m:=tK (b.take a) d (4294967295 - f);rw [<-E] at m;have v:=qH (b.take a) (4294967295 - f) oM;obtain ⟨c,k⟩:=eqx (mE (b.take a) (4294967295 - f));rw [k] at m v;rw [k];have o:=aLQ v d;have G:=d.toNat_lt;have r:bits .xor .u8 ((c:Int)% 256) (d.toNat:Int)=(((c % 256)^^^ d.toNat:Nat):Int):=(by have:((c:Int)% 256)=((c % 256:Nat):Int):=oM;rw [this,aE5 _ oM G]);obtain ⟨l,H⟩:=eqx ((c % 256)^^^ d.toNat);rw [H] at m o r;have K:wr.cell? ⟨w1.heap.size,l,none⟩=some (.int .u32 (kJ l:Nat)):=(t.cell l).trans (aLS o);have L:bits .xor .u32 ((kJ l:Nat):Int) ((c:Int)/ 256)=((kJ l ^^^(c / 256):Nat):Int):=(by have:((c:Int)/ 256)=((c / 256:Nat):Int):=oM;rw [this,iW _ _ (aCq o) oM]);unfold bv at y;go_wp2_with fail;go_roundw
   case rel=>exact ⟨a+1,by omega,by go_num,by rw [m],t,n⟩
   case measure=>exact zr
  .have z:a=e:=oM;subst z;rw [zAg (by omega:b.length<=a)];have r:=aJW (qH b (4294967295 - f) oM);go_wp2_with fail;go_ret;exact ⟨rfl,n⟩
def xL {A AP n c} (m) {b w} (s:Rd w w.heap.size 1 A n (b.map bv)) (q:n<=1099511627776) (r:Rd w w.heap.size 1 AP 1 [.slice A n c]):
 Calls prog 81 #[.slice AP 1 m] w λg v=>g=.returned (.int .u32 (lP b:Nat))/\Below w.heap.size w v:=by
 obtain ⟨l,t,z,rfl,p,f,j⟩:=r.get (k:=0) oM;injection f with f;subst f;go_enter func81,ntmps81;go_wp2_with fail;go_loopw [3,8] (λu i wr=>∃a:Nat,a<=1/\i=.int .i64 a/\u=.int .u32 ((if a=0 then 0 else lP b):Nat)/\Below w.heap.size w wr) (λ_ i _=>1 -(intOf i).toNat)
 case atStart=>exact ⟨0,by omega,rfl,rfl,kg _ _⟩
 case round=>
  obtain ⟨a,x,rfl,rfl,d⟩:=hrel;by_cases y:a < 1
  .have e:a=0:=oM;subst e;have j:wr.cell? ⟨l,t,none⟩=some (.slice A n c):=(d.cell p).trans j;rw [zBx rfl];go_wp2_with fail;refine (aFU 0 oM c ((s.below d).mono d.size) q).mono ?_;rintro g w1 ⟨rfl,o⟩;go_wp2_with fail;go_roundw
   case rel=>exact ⟨1,by omega,rfl,rfl,d.trans (o.mono d.size)⟩
   case measure=>simp [intOf]
  .have e:a=1:=oM;subst e;rw [zBw oM];go_wp2_with fail;go_ret;exact ⟨rfl,d⟩
end
end Go.Proofs.YtknjfpcdhdmghaaGreatDoor
