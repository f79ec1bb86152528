/- Lemmas of the walk. Conditions: each its own. -/
import Derived.Test.YtcoooelofcejbaaGreatDoorPd13
import Derived.Test.YtcoooelofcejbaaGreatDoorPd14
import Derived.Test.YtcoooelofcejbaaGreatDoorPd15
import Derived.Test.YtcoooelofcejbaaGreatDoorProg
import Derived.Test.YtcoooelofcejbaaGreatDoorShl
import Derived.Test.YtcoooelofcejbaaGreatDoorSht
set_option linter.all false
set_option maxRecDepth 100000
set_option maxHeartbeats 2000000
open Go.Proofs.Tryz
namespace Go.Proofs.YtcoooelofcejbaaGreatDoor
section
open Go.RowKit
def uO:(prog.info? 5).map (fun a=>(a.zero,a.size,a.bytes))=some (some (.int .u8 0),1,1):=by kernel_rfl
def aIT {a:Nat} (b:World) (s:a<=1099511627776):
 Calls prog 58 #[.slice none 0 0,(a:Int)] b fun k g=>∃f,k=.returned f/\g.ownsRow b.heap.size 5 1 f 0 []/\Below b.heap.size b g:=by
 obtain ⟨p,l,n,t,o⟩:=info_parts uO;rcases zBa a with c | c
 · subst c;go_enter func58,ntmps58;go_wp2;go_ret;exact ⟨_,rfl,World.ownsRow_nil _ _ _ _,Below.refl _ _⟩
 · have d:=Lib.run_append_nil_zeros (P:=prog) b 34 3 34 5 p (.int .u8 0) .i64 .i64 underlying34 underlying3 l n a c oM oM (by rw [o];omega);have r:=grownCap_ge b a 0 5;have m:=grownCap_le_maxLen b a 0 5 (by unfold maxLen;omega);generalize grownCap b a 0 5=cp at*
   have e:(Builtin.zeroCells (Value.int .u8 0).cells a++Builtin.zeroCells (Value.int .u8 0).cells (cp - a)).size=cp*1:=(by simp [Builtin.zeroCells,Value.cells];omega);obtain ⟨j,i⟩:=hqq2 e d;clear e d;have q:¬((a:Int) < 0):=oM;go_enter func58,ntmps58;go_wp2_with (at_builtin;refine Lib.wpList_append_run _ rfl (.tmp 20) (.tmp 21) _ _ rfl _ _ rfl rfl _ _ i.out ?_);go_ret;exact ⟨_,rfl,World.ownsRow_made _ _ _ nL m j.out,bR.drew.alloc nL _⟩
structure Sl where
 A:Option Addr
 n:Nat
 c:Nat
 l:List UInt8
def slV (a:Sl):Value:=.slice a.A a.n a.c
def gK (a:List Sl):List UInt8:=a.flatMap (·.l)
def aAg {b:List Sl} {a:Nat} {c:Sl} (d:b[a]?=some c):gK (b.take (a+1))=gK (b.take a)++c.l:=by
 rw [zAv,d];simp [gK]
def aBf (a:List Sl) (b:Nat):(gK (a.take b)).length<=(gK a).length:=by
 have:gK a=gK (a.take b)++gK (a.drop b):=by unfold gK;rw [<-List.flatMap_append,zAu]
 rw [this,zAi];omega
def mG {A0:Option Addr} {m0:Nat} (X:Nat) {B:Nat} {ss:List Sl} {T:List UInt8} {N:Nat} (t:gK ss=T) (M:T.length=N) {w:World} (y:Rd w B 1 A0 m0 (ss.map slV)) (z:∀b∈ss,Rd w B 1 b.A b.n (b.l.map bv)) (L:B<=w.heap.size) (ai:m0<=1099511627776) (a6:N<=1099511627776):
 Calls prog 30 #[.slice A0 m0 X] w fun K U=>∃p q,K=.returned (.slice p N q)/\Made U w.heap.size 5 1 p N q (T.map bv)/\Below w.heap.size w U:=by
 obtain ⟨ae,a3,ab,ac,ad⟩:=info_parts uO;have O:ss.length=m0:=by simpa using y.1
 have P:∀a,(gK (ss.take a)).length<=1099511627776:=fun a=>by have:=aBf ss a;rw [t] at this;omega
 have R:∀a b,ss[a]?=some b->b.l.length=b.n/\(gK (ss.take (a+1))).length=(gK (ss.take a)).length+b.n:=fun a b d=>by
  have j:=(z b (zAd d)).1;have e:b.l.length=b.n:=by simpa using j
  rw [aAg d,zAi,e];exact ⟨rfl,rfl⟩
 obtain ⟨i,H,J,I,V,F,E⟩:=hqq7 O P R (y.mono L) (fun b d=>(z b d).mono L) t M;clear O P R y z t M;go_enter func30,ntmps30;go_wp2;go_loopw [3,11] (fun D g wr=>∃a:Nat,a<=m0/\g=.int .i64 a/\D=.int .i64 ((gK (ss.take a)).length:Int)/\w=wr) (fun _ g _=>m0 -(intOf g).toNat)
 case atStart=>exact ⟨0,zAp _,rfl,by simp [gK],rfl⟩
 case round=>
  obtain ⟨a,a4,rfl,rfl,rfl⟩:=hrel;by_cases x:a < m0
  · obtain ⟨b,d⟩:∃b,ss[a]?=some b:=⟨ss[a]'(by have:=i.out;omega),zAa (by have:=i.out;omega)⟩;obtain ⟨W,af,ag,rfl,a0,f,u⟩:=I.out.get x;rw [zAf,d] at f;simp at f;subst f;unfold slV at u;obtain ⟨j,e⟩:=J.out a b d;have s:=H.out (a+1);generalize Q:(gK (ss.take a)).length=C at*
    have r:=lhd e;rw [e] at s;clear j e d Q;have aj:¬((C:Int)+(b.n:Int) < 0):=oM;go_wp2;go_roundw
    case rel=>exact ⟨a+1,by omega,by go_num,by rw [r.out];go_num,trivial⟩
    case measure=>simp [intOf];omega
  · have v:a=m0:=oM;have a2:m0<=a:=oM;have o:ss.take a=ss:=zAg (by have:=i.out;omega);rw [o,F.out,E.out];clear v o;go_wp2_with fail;refine (aIT _ a6).mono ?_;rintro K w1 ⟨ak,rfl,a7,Z⟩;go_wp2_with fail;go_loopw [6,27] (fun D g wr=>∃a:Nat,a<=m0/\g=.int .i64 a/\wr.ownsRow w.heap.size 5 1 D (gK (ss.take a)).length ((gK (ss.take a)).map bv)/\Below w.heap.size w wr) (fun _ g _=>m0 -(intOf g).toNat)
    case atStart=>exact ⟨0,zAp _,rfl,a7,Z⟩
    case round=>
        obtain ⟨a,a4,rfl,m,k⟩:=hrel;have S:=k.size;by_cases x:a < m0
        · obtain ⟨b,d⟩:∃b,ss[a]?=some b:=⟨ss[a]'(by have:=i.out;omega),zAa (by have:=i.out;omega)⟩;obtain ⟨W,af,ag,rfl,a0,f,u⟩:=(I.out.below k).get x;rw [zAf,d] at f;simp at f;subst f;unfold slV at u;have a9:=lhd ((V.out b (zAd d)).below k);obtain ⟨j,e⟩:=J.out a b d;have s:=H.out (a+1);obtain ⟨aa,r⟩:=hqq2 (aAg d) e;generalize Q:(gK (ss.take a)).length=C at*
          rw [e] at s;have G:=lhd m;clear j e d m;go_wp2_with (at_builtin;refine bK _ rfl (.tmp 31) (.tmp 32) _ rfl w.heap.size 5 ae (.int .u8 0) 1 1 underlying34 a3 ab ac ad rfl dC _ C _ rfl G.out w.heap.size b.A b.n b.c _ rfl a9.out (lS _) (by unfold maxLen;omega) oM S ?_;intro al am a8 a1 ah);have Y:=bC k G.out a1 S;go_roundw
          case rel=>refine ⟨a+1,by omega,by go_num,?_,Y⟩;rw [r.out,aa.out,zAz];exact a8
          case measure=>simp [intOf];omega
        · have v:a=m0:=oM;have a2:m0<=a:=oM;have o:ss.take a=ss:=zAg (by have:=i.out;omega);rw [o,F.out,E.out] at m;obtain ⟨p,q,rfl,a5⟩:=aR m;clear v o m;go_wp2;go_ret;exact ⟨p,q,rfl,a5,k⟩
def PermAt.vis {q w':World} {c j i:Nat} {n o p m:Value} {f e:Nat} {k:List Nat} {d:List (Nat×Nat)} {l:List Bool} {g:List Nat} (a:PermAt q c j i n o p m f e k d l g) (b:Vis q w'):PermAt w' c j i n o p m f e k d l g:=
 ⟨b.bk a.blk dC dC,b.own a.lrow dC dC,b.own a.orow dC dC,b.bk a.ar dC dC,b.own a.trow dC dC,b.own a.frow dC dC,a.apart,a.lt,a.lo⟩
def LiveAt.vis {q w':World} {d i gk j g:Nat} {n o p:Value} {c k l:Nat} {f:List Nat} {e:List (Nat×Nat)} {m:List Bool} (a:LiveAt q d i gk j g n o p c k l f e m) (b:Vis q w'):LiveAt w' d i gk j g n o p c k l f e m:=
 ⟨b.bk a.blk dC dC,a.walk.vis b,a.perm.vis b⟩
def aER (f:List Nat) (e d a c:Nat):(a,c)∈cJ f e d↔a < d/\f.getD a 0=c/\c % e=0:=by
 unfold cJ;rw [zAy];constructor;rintro ⟨k,b,g⟩;rw [zCw,zCj] at b;cases g;exact ⟨b.1,rfl,by simpa using b.2⟩;rintro ⟨i,rfl,j⟩;exact ⟨a,zCw.2 ⟨zCj.2 i,by simpa using j⟩,rfl⟩
def aAP {a:List (Nat×Nat)} (f:a.Pairwise (fun b c=>b.1 < c.1)):(List.range a.length).Pairwise (fun b c=>aC a b < aC a c):=by
 rw [zAr];intro i j d e g;rw [zCi] at d e;rw [List.getElem_range,List.getElem_range];have:=zAr.1 f i j d e g;unfold aC;rw [zAb,zAb,zAa d,zAa e];exact this
def aHq (c:List Nat) (b a:Nat):(cJ c b a).length<=a:=by
 unfold cJ;rw [zBc];exact zAk (zCv _ _) (by simp)
end
section
open Go.RowKit Go.Shelf
def PermR (s:World) (l f e:Nat) (m:List (Nat×Nat)):Prop:=
 ∃d k p q r o b a n j,PermAt s d l k p q r o f e b a n j/\b.Pairwise (fun g i=>aC a g < aC a i)/\a.length<=1000/\b.length<=1000/\m=b.map fun c=>(aC a c,aJ a c)
def PermR.le {g:World} {d c b:Nat} {a:List (Nat×Nat)} (e:PermR g d c b a):a.length<=1000:=by
 obtain ⟨i,l,s,t,u,r,p,j,q,k,m,n,o,f,rfl⟩:=e;rw [zBc];exact f
def PermR.vis {e w':World} {c b a:Nat} {d:List (Nat×Nat)} (k:PermR e c b a d) (n:Vis e w'):PermR w' c b a d:=by
 obtain ⟨f,j,r,s,t,q,o,g,p,i,l,m⟩:=k;exact ⟨f,j,r,s,t,q,o,g,p,i,l.vis n,m⟩
def PermR.lt {b:World} {a d c:Nat} {g:List (Nat×Nat)} (e:PermR b a d c g):a < b.heap.size:=by
 obtain ⟨i,l,q,r,s,p,n,j,o,k,f,m⟩:=e;exact f.blk.lt
def aBD {V j ac:Nat} {aw ax ay av:Value} {a3 a2:Nat} {f:List Nat} {c:List (Nat×Nat)} {aq:List Bool} {aa:List Nat} {e:World} (g:PermAt e V j ac aw ax ay av a3 a2 f c aq aa) (ad:c.length<=1000) (ae:f.length<=1000):
 Calls prog 129 #[j] e (jL e (f.map fun a=>(aC c a,aJ c a))):=by
 obtain ⟨ap,ai,am,an,ao⟩:=info_parts sY;have N:=g.orow;obtain ⟨T,a4,rfl,_,_⟩:=aQ N;obtain ⟨S,G,rfl,_,_⟩:=aQ g.lrow;have v:e.cell? ⟨j,1,none⟩=some (.slice S c.length G):=(g.blk.cell 1).trans rfl;have H:e.cell? ⟨j,2,none⟩=some (.slice T f.length a4):=(g.blk.cell 2).trans rfl;have ah:=g.blk.lt;obtain ⟨F,x⟩:=eqx c.length;obtain ⟨m,o⟩:=eqx f.length;obtain ⟨d,q⟩:∃d,(f.map fun a=>(aC c a,aJ c a))=d:=⟨_,rfl⟩;have O:d.length=m:=by rw [<-q,zBc,o]
 rw [q];obtain ⟨D,Z,W,a1,s⟩:=hqq5 g o x q O;rw [x] at v ad;rw [o] at H ae;clear g N o x q O;unfold jL;go_enter func129,ntmps129;go_wp2_with fail;go_loopw [3,13] (fun ar C wr=>∃a:Nat,a<=m/\C=.int .i64 (a:Int)/\wr.ownsRow e.heap.size 112 2 ar a (bG (d.take a))/\Below e.heap.size e wr) (fun _ C _=>m -(intOf C).toNat)
 case atStart=>exact ⟨0,zAp _,rfl,World.ownsRow_nil _ _ _ _,Below.refl _ _⟩
 case round=>
  obtain ⟨a,aF,rfl,k,i⟩:=hrel;have P:=i.size;by_cases aj:a < m
  · have K:a < f.length:=(by rw [Z.out];exact aj);obtain ⟨b,n⟩:∃b,f[a]?=some b:=⟨_,zAa K⟩;have A:b < c.length:=D.out.lt b (zAd n);have aE:b < F:=(by rw [<-W.out];exact A);have l:=D.out.below i;have B:=l.orow;obtain ⟨ab,aI,a9,_,aD⟩:=World.ownsRow.form B oM;obtain ⟨w,aH,a8,_,aB⟩:=World.ownsRow.form l.lrow oM;injection a9 with e2a _ _;injection a8 with e1a _ _;subst e2a;subst e1a;have az:wr.cell? ⟨ab,a,none⟩=some (.int .i64 (b:Int)):=(World.ownsRow.cellAt B a oM).trans (by rw [zAf,n];rfl);obtain ⟨Q,R⟩:=cC c b A;have a6:wr.cell? ⟨w,b*2,none⟩=_:=(World.ownsRow.cellAt l.lrow (b*2) oM).trans Q;have a7:wr.cell? ⟨w,b*2+1,none⟩=_:=(World.ownsRow.cellAt l.lrow (b*2+1) oM).trans R;have aA:wr.cell? ⟨j,1,none⟩=some (.slice (some w) F G):=(i.cell (p:=⟨j,1,none⟩) ah).trans v;obtain ⟨t,y⟩:=eqx (aC c b);obtain ⟨u,z⟩:=eqx (aJ c b);have M:bG (d.take (a+1))=bG (d.take a)++ [.int .i64 (t:Int),.int .i64 (u:Int)]:=(by have ag:d[a]?=some (t,u):=(by rw [<-a1.out,zAf,n,<-y,<-z];rfl);rw [zAv,ag];show bG (d.take a++ [(t,u)])=_;rw [jT];rfl);rw [y] at a6;rw [z] at a7;obtain ⟨E,r,a0⟩:=hqq3 k i M;clear k i M l B Q R v H y z n A K;go_wp2_with (at_builtin;refine bP _ rfl (.tmp 17) (.tmp 25) _ rfl e.heap.size 112 ap (.agg #[.int .i64 0,.int .i64 0]) 2 16 underlying86 ai am an ao rfl dC _ a _ rfl E.out rfl rfl (by simp [Value.oneCell']) (by unfold maxLen;omega) oM P ?_;intro au aK ak J aG af);have I:=bC r.out E.out J P;have X:=lhd I;clear I J af;exact ⟨⟨au,_,_,⟨a+1,by omega,by go_num,by rw [a0.out];exact ak,X.out⟩,rfl,rfl,rfl⟩,by simp [intOf];omega⟩
  · obtain rfl:a=m:=oM;have al:d.take a=d:=zAg (by rw [s.out];exact zAs _);rw [al] at k;obtain ⟨U,a5,rfl,L⟩:=aR k;obtain ⟨Y,r⟩:=hqq2 L i;clear k L i;go_wp2_with fail;go_ret;exact ⟨U,a5,by rw [s.out];rfl,by rw [s.out];exact Y.out,r.out⟩
def sB {b e d:Nat} {c:List (Nat×Nat)} {a:World} (f:PermR a b e d c):
 Calls prog 129 #[b] a (jL a c):=by
 obtain ⟨k,n,s,t,u,r,p,l,q,m,g,o,i,j,rfl⟩:=f;exact aBD g i j
def dZ (c:List (Nat×Nat)) (b:Nat) (e:Int):Prop:=(e=-1/\∀a∈c,a.2 < b)∨∃a∈c,e=((a.2:Nat):Int)/\b<=a.2/\∀d∈c,b<=d.2->a.2<=d.2
def wJ {l:List (Nat×Nat)} {f:Nat} {m:Int} (p:dZ l f m) (g a:Nat):dZ (l++(some (g,a)).toList) f (if f<=a/\(m < 0∨(a:Int) < m) then (a:Int) else m):=by
 have e:∀b:Nat×Nat,b∈l++(some (g,a)).toList↔b∈l∨b=(g,a):=fun b=>by simp
 rcases p with ⟨rfl,k⟩|⟨j,q,rfl,k,n⟩;by_cases d:f<=a;rw [zBx ⟨d,.inl oM⟩];refine .inr ⟨(g,a),(e _).2 (.inr rfl),rfl,d,fun b c i=>?_⟩;rcases (e b).1 c with c | rfl;have:=k b c;omega;exact zAs _;rw [zBw (fun o=>d o.1)];refine .inl ⟨rfl,fun b c=>?_⟩;rcases (e b).1 c with c | rfl;exact k b c;show a < f;omega;by_cases d:f<=a/\((j.2:Int) < 0∨(a:Int) < (j.2:Int));rw [zBx d];have r:a < j.2:=oM;refine .inr ⟨(g,a),(e _).2 (.inr rfl),rfl,d.1,fun b c i=>?_⟩;rcases (e b).1 c with c | rfl;have:=n b c i;show a<=_;omega;exact zAs _;rw [zBw d];refine .inr ⟨j,(e _).2 (.inl q),rfl,k,fun b c i=>?_⟩;rcases (e b).1 c with c | rfl;exact n b c i;have s:f<=a:=i;show j.2<=a;omega
def tL (a:World) (c:List (Nat×Nat)) (e:Nat) (d:Ending) (f:World):Prop:=∃b,d=.returned (.int .i64 b)/\dZ c e b/\Below a.heap.size a f
def oY {A T S:Nat} {d:List (Nat×Nat)} (e:Nat) {w:World} (q:PermR w A T S d):
 Calls prog 154 #[A,(e:Int)] w (tL w d e):=by
 have n:=sB q;have W:=q.le;unfold jL at n;obtain ⟨o,u⟩:=eqx d.length;rw [u] at n W;have z:=lhd u;clear q u;unfold tL;go_enter func154,ntmps154;go_wp2_with fail;refine n.mono ?_;rintro a7 w1 ⟨a3,a6,rfl,J,E⟩;clear n;obtain ⟨Q,y⟩:=hqq2 J E;clear J E;go_wp2_with fail;go_loopw [5,11] (fun a2 v wr=>∃(a:Nat) (c:Int),a<=o/\v=.int .i64 (a:Int)/\a2=.int .i64 c/\dZ (d.take a) e c/\Below w1.heap.size w1 wr) (fun _ v _=>o -(intOf v).toNat)
 case atStart=>exact ⟨0,-1,zAp _,rfl,rfl,.inl ⟨rfl,fun ad Z=>by simp at Z⟩,Below.refl _ _⟩
 case round=>
  obtain ⟨a,c,a9,rfl,rfl,j,i⟩:=hrel;have Y:=i.size;by_cases X:a < o
  · have I:a < d.length:=(by rw [z.out];exact X);have L:=Q.out.rd.below (i.mono (B:=w1.heap.size) nL);obtain ⟨a5,ac,rfl,a8,t⟩:=L.2 oM;obtain ⟨N,O⟩:=cC d a I;have U:=t _ _ N;have V:=t _ _ O;obtain ⟨p,r⟩:=eqx (aC d a);obtain ⟨b,s⟩:=eqx (aJ d a);rw [r] at U;rw [s,<-Nat.add_assoc] at V;have H:d[a]?=some (p,b):=(by rw [<-r,<-s];unfold aC aJ;rw [zAb,zAa I];rfl);have K:∀x:Int,x=(if e<=b/\(c < 0∨(b:Int) < c) then (b:Int) else c)->dZ (d.take (a+1)) e x:=fun x a0=>by rw [zAv,H,a0];exact wJ j p b
    obtain ⟨l,a4⟩:=hqq2 K i;have F:Below w1.heap.size w1 (wr.alloc (.cells #[(p:Int),(b:Int)] 112)):=i.alloc Y _;have k:=lhd F;clear j i L t N O r s F K H;by_cases m:e<=b
    · have a1:decide (e<=b)=true:=zBz m;by_cases C:c < 0
      · have f:dZ (d.take (a+1)) e (b:Int):=l.out (b:Int) (by rw [zBx ⟨m,.inl C⟩]);have g:=lhd f;clear f;go_wp2_with fail;go_roundw
        case rel=>exact ⟨a+1,(b:Int),by omega,by go_num,by first | rfl | trivial,g.out,k.out⟩
        case measure=>simp [intOf];omega
      · have aa:decide (c < 0)=false:=zBy C;by_cases D:(b:Int) < c
        · have f:dZ (d.take (a+1)) e (b:Int):=l.out (b:Int) (by rw [zBx ⟨m,.inr D⟩]);have g:=lhd f;clear f;go_wp2_with fail;go_roundw
          case rel=>exact ⟨a+1,(b:Int),by omega,by go_num,by first | rfl | trivial,g.out,k.out⟩
          case measure=>simp [intOf];omega
        · have ab:decide ((b:Int) < c)=false:=zBy D;have f:dZ (d.take (a+1)) e c:=l.out c (by rw [zBw oM]);have g:=lhd f;clear f;go_wp2_with fail;go_roundw
          case rel=>exact ⟨a+1,c,by omega,by go_num,by first | rfl | trivial,g.out,k.out⟩
          case measure=>simp [intOf];omega
    · have a1:decide (e<=b)=false:=zBy m;have f:dZ (d.take (a+1)) e c:=l.out c (by rw [zBw oM]);have g:=lhd f;clear f;go_wp2_with fail;go_roundw
      case rel=>exact ⟨a+1,c,by omega,by go_num,by first | rfl | trivial,g.out,k.out⟩
      case measure=>simp [intOf];omega
  · obtain rfl:a=o:=oM;have G:=y.out.trans (i.mono y.out.size);have P:=lhd G;have M:d.take a=d:=zAg (by rw [z.out];exact zAs _);rw [M] at j;have R:=lhd j;clear G j i M;go_wp2_with fail;go_ret;exact ⟨c,rfl,R.out,P.out⟩
def aCZ (c:World) (e:List Nat) (b:List (Nat×Nat)) (f:Nat) (d:Ending) (g:World):Prop:=∃a,a∈e/\aJ b a=f/\d=.returned (.int .i64 ((aC b a:Nat):Int))/\Below c.heap.size c g
def aBy {A m M:Nat} {X Y Z W:Value} {H G:Nat} {d:List Nat} {a:List (Nat×Nat)} {V:List Bool} {L:List Nat} {g:Nat} {r:World} (e:PermAt r A m M X Y Z W H G d a V L) (P:d.length<=1099511627776) (a4:a.length<=1099511627776) (v:∃j∈d,aJ a j=g):
 Calls prog 155 #[m,(g:Int)] r (aCZ r d a g):=by
 have o:=iI g e P;obtain ⟨k,c,x,n,y⟩:=tU (p:=fun j=>decide (aJ a j=g)) (l:=d) (by obtain ⟨j,Q,R⟩:=v;exact ⟨j,Q,zBz R⟩) 0;rw [x,zBi] at o;have z:aJ a c=g:=of_decide_eq_true y;have ac:k < d.length:=(zAc.1 n).1;have U:c < a.length:=e.lt c (zAd n);obtain ⟨t,J,T,a8,N⟩:=World.ownsRow.form e.orow oM;obtain ⟨u,K,S,a9,O⟩:=World.ownsRow.form e.lrow oM;subst T;subst S;have w:=(cC a c U).1;obtain ⟨B,s,F,D⟩:=hqq4 e n z w;have ab:(k:Int) < (d.length:Int):=oM;have ad:(c:Int) < (a.length:Int):=oM;have aa:decide ((k:Int) < 0)=false:=by simp
 clear e x n y z w v;unfold aCZ;go_enter func155,ntmps155;go_wp2_with fail;refine o.mono ?_;rintro a3 w1 ⟨rfl,i⟩;have f:=B.out.below i;have a0:∀b,(w1.drewN b).cell? ⟨m,1,none⟩=some (.slice (some u) a.length K):=fun b=>(f.blk.cell 1).trans rfl;have a1:∀b,(w1.drewN b).cell? ⟨m,2,none⟩=some (.slice (some t) d.length J):=fun b=>(f.blk.cell 2).trans rfl;have a7:=f.blk.lt;have a2:∀b,(w1.drewN b).cell? ⟨t,k,none⟩=some (.int .i64 (c:Int)):=fun b=>(World.ownsRow.cellAt f.orow k oM).trans (by rw [zAf,s.out];rfl);have I:∀b,(w1.drewN b).cell? ⟨u,c*2,none⟩=some (.int .i64 ((aC a c:Nat):Int)):=fun b=>(World.ownsRow.cellAt f.lrow (c*2) oM).trans D.out;have C:=lhd i;have a5:=zAl N i.size;have a6:=zAl O i.size;obtain ⟨ae,q⟩:=eqx (aC a c);rw [q] at I;have E:=lhd q;clear o i f q;go_wp2_with fail;go_quiet (fail);go_wp2_with fail;go_ret;exact ⟨c,zAd s.out,F.out,by rw [E.out];rfl,below_drewN C.out _⟩
def xR (b:World) (e:List (Nat×Nat)) (d:Nat) (c:Ending) (f:World):Prop:=∃a,(a,d)∈e/\c=.returned (.int .i64 (a:Int))/\Below b.heap.size b f
def rZ {gp R P:Nat} {pr:List (Nat×Nat)} {pos:Nat} {w:World} (f:PermR w gp R P pr) (j:∃d∈pr,d.2=pos):
 Calls prog 155 #[gp,(pos:Int)] w (xR w pr pos):=by
 obtain ⟨p,r,y,z,A,x,o,e,v,q,g,s,t,u,rfl⟩:=f;have k:∃a∈o,aJ e a=pos:=by obtain ⟨d,n,c⟩:=j;obtain ⟨a,b,rfl⟩:=zAy.1 n;exact ⟨a,b,c⟩
 have m:=aBy g oM oM k;refine m.mono ?_;rintro c B ⟨a,b,l,rfl,i⟩;exact ⟨_,zAy.2 ⟨a,b,by rw [l]⟩,rfl,i⟩
def yT {gp R P:Nat} {pr:List (Nat×Nat)} (a:Nat) {w:World} (k:PermR w gp R P pr) (g:∀r∈pr,r.2≠a):
 Calls prog 155 #[gp,(a:Int)] w fun d q=>d=.returned (.int .i64 (-1))/\Below w.heap.size w q:=by
 obtain ⟨s,u,A,B,C,z,o,i,y,t,e,m,v,x,rfl⟩:=k;have b:=iI a e oM;rw [jY (p:=fun c=>decide (aJ i c=a)) (l:=o) (fun c n=>zBy (g _ (zAy.2 ⟨c,n,rfl⟩))) 0] at b;clear e m g;go_enter func155,ntmps155;go_wp2_with fail;refine b.mono ?_;rintro d w1 ⟨rfl,f⟩;have j:=lhd f;clear b f;go_wp2_with fail;go_ret;exact ⟨rfl,j.out⟩
end
section
open Go.RowKit
def lZ (a b:Nat) (e:a < 4294967296) (f:b < 4294967296):bits .xor .u32 (a:Int) (b:Int)=((a ^^^ b:Nat):Int):=by
 have g:a ^^^ b < 2 ^ 32:=Nat.xor_lt_two_pow oM oM;have c:(BitVec.ofInt 32 (a:Int)).toNat=a:=by rw [BitVec.ofInt_natCast,BitVec.toNat_ofNat];exact zBu oM
 have d:(BitVec.ofInt 32 (b:Int)).toNat=b:=by rw [BitVec.ofInt_natCast,BitVec.toNat_ofNat];exact zBu oM
 show IntKind.u32.wrap ((BitVec.ofInt 32 (a:Int)^^^ BitVec.ofInt 32 (b:Int)).toNat:Int)=_;rw [BitVec.toNat_xor,c,d,IntKind.wrap_u32];omega
def aCE (a:Nat) {b:Nat} (e:a < 256) (f:b < 256):bits .xor .u8 (a:Int) (b:Int)=((a ^^^ b:Nat):Int):=by
 have g:a ^^^ b < 2 ^ 8:=Nat.xor_lt_two_pow oM oM;have c:(BitVec.ofInt 8 (a:Int)).toNat=a:=by rw [BitVec.ofInt_natCast,BitVec.toNat_ofNat];exact zBu oM
 have d:(BitVec.ofInt 8 (b:Int)).toNat=b:=by rw [BitVec.ofInt_natCast,BitVec.toNat_ofNat];exact zBu oM
 show IntKind.u8.wrap ((BitVec.ofInt 8 (a:Int)^^^ BitVec.ofInt 8 (b:Int)).toNat:Int)=_;rw [BitVec.toNat_xor,c,d,IntKind.wrap_u8];omega
def aBi {a:Nat} (d:a < 4294967296):bits .and .u32 (a:Int) 1=((a % 2:Nat):Int):=by
 have b:(BitVec.ofInt 32 (a:Int)).toNat=a:=by rw [BitVec.ofInt_natCast,BitVec.toNat_ofNat];exact zBu oM
 show IntKind.u32.wrap ((BitVec.ofInt 32 (a:Int)&&& BitVec.ofInt 32 (1:Int)).toNat:Int)=_;rw [BitVec.toNat_and,b];have c:(BitVec.ofInt 32 (1:Int)).toNat=1:=dC;rw [c,IntKind.wrap_u32,Nat.and_one_is_mod];omega
def aDj {a:Nat} (i:a < 4294967296) (d:World):
 Calls prog 206 #[.int .u32 (a:Int),.bool false] d fun e j=>e=.returned (.int .u32 ((lY a:Nat):Int))/\Below d.heap.size d j:=by
 have k:=aBi i;go_enter func206,ntmps206;go_wp2_with fail
 · go_ret;refine ⟨?_,Below.refl _ _⟩
   rename_i b
   have c:a % 2=1:=(by have:=eq_of_beq b;omega);have f:((a:Int)/ 2)=((a / 2:Nat):Int):=oM;have g:(3988292384:Int)=((3988292384:Nat):Int):=rfl;show Ending.returned (Value.int .u32 (bits .xor .u32 ((a:Int)/ 2) 3988292384))=_;rw [f,g,lZ _ _ oM oM,lY,zBx c]
 · go_ret;refine ⟨?_,Below.refl _ _⟩
   rename_i b
   have c:¬a % 2=1:=(by intro l;have:((a:Int)% 2==1)=true:=zCr.2 oM;rw [this] at b;cases b);show Ending.returned (Value.int .u32 ((a:Int)/ 2))=_;rw [lY,zBw c];rfl
def yD (b c:Nat):Nat->Nat:=fun a=>if a < b then jF a else if a=b then c else 0
def aG8 (b f e:Nat):(fun c=>if c=b then e else yD b f c)=yD b e:=by
 funext c;unfold yD;by_cases a:c=b
 · rw [zBx a,zBw oM,zBx a]
 · rw [zBw a];by_cases d:c < b
   · rw [zBx d,zBx d]
   · rw [zBw d,zBw d,zBw a,zBw a]
def aFB (a:Nat):yD a (jF a)=yD (a+1) 0:=by
 funext p;unfold yD;by_cases b:p < a
 · rw [zBx b,zBx oM]
 · rw [zBw b];by_cases c:p=a
   · subst c;rw [zBx rfl,zBx oM]
   · rw [zBw c,zBw oM];split <;> rfl
@[irreducible] def crcC:Array Value:=jP .u32 256 jF
@[irreducible] def tabC (a d:Nat):Array Value:=jP .u32 256 (yD a d)
def aBS {a d b:Nat} (c:a < 256):(tabC a d).setIfInBounds a (.int .u32 (b:Int))=tabC a b:=by
 unfold tabC;rw [lH c,aG8]
def vF {a b:Nat} (c:a < 256):(tabC a b)[a]?=some (.int .u32 (b:Int)):=by
 unfold tabC;rw [fK c];unfold yD;rw [zBw oM,zBx rfl]
def aFD (a:Nat):tabC a (tW 8 a)=tabC (a+1) 0:=by
 unfold tabC;rw [<-aFB];rfl
def zN:Array.replicate 256 (Value.int .u32 0)=tabC 0 0:=by
 unfold tabC;rw [oL];exact cW fun b a=>by unfold yD;rw [zBw oM];split <;> rfl
def aG9 (b:Nat):tabC 256 b=crcC:=by
 unfold tabC crcC;exact cW fun c a=>by unfold yD;rw [zBx a]
def aIy {a:Nat} (b:a < 256):crcC[a]?=some (.int .u32 ((jF a:Nat):Int)):=by
 unfold crcC;exact fK b
def oK:crcC.size=256:=by unfold crcC;exact lG _ _ _
def aFC (a b:Nat):(tabC a b).size=256:=by unfold tabC;exact lG _ _ _
def aFz {b a:World} {d:Array Value} {c:Nat} (j:d.getD 0 undef=.pointer (some c)) (g:Bk a c 174 crcC) (k:(prog.info? 174).map (·.size)=some crcC.size) (i:Below b.heap.size b a):
 bodyPost prog f136 (fun e a=>e=.returned (.agg crcC)/\Below b.heap.size b a) .ret ⟨d, []⟩ a:=
 bodyPost_ret (results_cell_row (P:=prog) (fn:=f136) (p:=0) (ty:=174) rfl d a c 174 crcC (0,0) _ j g underlying174 rfl k) rfl ⟨rfl,i⟩
def aJX {a:Nat} (d:a < 4294967296):bits .xor .u32 IntKind.u32.max (a:Int)=((4294967295 - a:Nat):Int):=by
 have b:IntKind.u32.max=((4294967295:Nat):Int):=dC;rw [b,lZ _ _ oM d];congr 1;have c:(4294967295:Nat)^^^ a=(BitVec.allOnes 32 ^^^ BitVec.ofNat 32 a).toNat:=by rw [BitVec.toNat_xor,BitVec.toNat_ofNat,zBu (by omega:a < 2 ^ 32)];rfl
 rw [c,BitVec.allOnes_xor,BitVec.toNat_not,BitVec.toNat_ofNat,zBu (by omega:a < 2 ^ 32)]
def aBI (b:World):
 Calls prog 136 #[] b fun t C=>t=.returned (.agg crcC)/\Below b.heap.size b C:=by
 go_enter func136,ntmps136;go_wp2_with fail;go_loopw [3] (fun d wr=>∃(a:Nat) (j:Nat),a<=256/\d=.int .i64 (a:Int)/\Bk wr b.heap.size 174 (tabC 0 0)/\Bk wr (b.heap.size+1) 174 (tabC a j)/\(a < 256->j=0)/\Below b.heap.size b wr) (fun d _=>256 -(intOf d).toNat)
 case atStart=>refine ⟨0,0,by omega,rfl,?_,?_,fun _=>rfl,?_⟩;rw [<-zN];exact (Bk.new _ _ _).alloc _;rw [<-zN];have u:=Bk.new (b.alloc (.cells Tryz.zeroCells174 174)) 174 Tryz.zeroCells174;rw [show (b.alloc (.cells Tryz.zeroCells174 174)).heap.size=b.heap.size+1 by simp] at u;exact u;exact (bR.alloc nL _).alloc (by simp) _
 case round=>
  obtain ⟨a,j,M,rfl,l,e,i,v⟩:=hrel;by_cases f:a < 256
  · have B:=i f;subst B;have J:((a:Int) < 256):=oM;have E:wr.cell? ⟨b.heap.size+1,a,none⟩=some (.int .u32 0):=(e.cell a).trans (vF f);have H:=e.frozen a;go_wp2_with fail;go_loopw [10] (fun d r=>∃c:Nat,c<=8/\d=.int .i64 (c:Int)/\Bk r b.heap.size 174 (tabC 0 0)/\Bk r (b.heap.size+1) 174 (tabC a (tW c a))/\Below b.heap.size b r) (fun d _=>8 -(intOf d).toNat)
    case atStart=>refine ⟨0,by omega,rfl,l.far (by simp) _,?_,v.setCell (by simp) _⟩;have:=e.set a (.int .u32 (a:Int));rw [aBS f] at this;exact this
    case round=>
        obtain ⟨c,K,rfl,o,g,n⟩:=hrel;by_cases N:c < 8
        · have L:((c:Int) < 8):=oM;have F:wr.cell? ⟨b.heap.size+1,a,none⟩=some (.int .u32 ((tW c a:Nat):Int)):=(g.cell a).trans (vF f);go_wp2_with fail;refine (aDj (wR oM c) _).mono ?_;rintro t D ⟨rfl,m⟩;have p:=g.below m g.lt;have A:=o.below m o.lt;have G:D.cell? ⟨b.heap.size+1,a,none⟩=some (.int .u32 ((tW c a:Nat):Int)):=(p.cell a).trans (vF f);have I:=p.frozen a;go_wp2_with fail;go_roundw
          case rel=>refine ⟨c+1,by omega,by go_num,A.far (by simp) _,?_,(n.trans (m.mono n.size)).setCell (by simp) _⟩;have:=p.set a (.int .u32 ((lY (tW c a):Nat):Int));rw [aBS f] at this;exact this
          case measure=>simp [intOf];omega
        · have q:c=8:=oM;subst q;go_wp2_with fail;go_roundw
          case rel=>rw [aFD] at g;exact ⟨a+1,0,by omega,by go_num,o,g,fun _=>rfl,n⟩
          case measure=>simp [intOf];omega
  · have q:a=256:=oM;subst q;rw [aG9] at e;obtain ⟨s,y⟩:=hqq2 l e;clear l e;have x:(prog.info? 174).map (·.size)=some crcC.size:=(by rw [oK];kernel_rfl);have w:crcC.all (·.oneCell')=true:=(by unfold crcC jP;rw [Array.all_eq_true_iff_forall_mem];intro j i;rw [List.mem_toArray,zAy] at i;obtain ⟨O,_,rfl⟩:=i;rfl);obtain ⟨k,z⟩:=hqq2 x w;clear x w;go_wp2_with (first |(refine wpList_load_row (P:=prog) rfl 174 (.tmp 1) rfl (b.heap.size+1) rfl 174 crcC (0,0) _ y.out underlying174 rfl k.out ?_)|(refine wpList_store_row (P:=prog) rfl 174 (.tmp 0) (.tmp 20) rfl b.heap.size crcC rfl rfl 174 (tabC 0 0) s.out k.out (by rw [aFC,oK]) z.out ?_));exact aFz rfl (setRow_heap wr b.heap.size _ crcC _ _ s.out) k.out (below_setRow v nL _)
def aDk (f:Nat) (H:f < 4294967296) {q:Option Addr} {e:Nat} (C:Nat) {b:List UInt8} {g:World} (o:Rd g g.heap.size 1 q e (b.map bv)) (T:e<=1099511627776):
 Calls prog 82 #[.int .u32 (f:Int),.slice q e C] g fun r L=>r=.returned (.int .u32 ((aBa f b:Nat):Int))/\Below g.heap.size g L:=by
 have R:b.length=e:=by have:=o.1;simpa using this
 have z:=lhd o;clear o;have w:(prog.info? 174).map (·.size)=some crcC.size:=by rw [oK];kernel_rfl
 have v:crcC.all (·.oneCell')=true:=by unfold crcC jP;rw [Array.all_eq_true_iff_forall_mem];intro c j;rw [List.mem_toArray,zAy] at j;obtain ⟨V,_,rfl⟩:=j;rfl
 obtain ⟨B,A⟩:=hqq2 w v;clear w v;go_enter func82,ntmps82;go_wp2_with fail;refine (aBI _).mono ?_;rintro r w1 ⟨rfl,t⟩;go_wp2_with (refine wpList_store_row (P:=prog) rfl 174 (.tmp 5) (.tmp 8) rfl w1.heap.size crcC rfl rfl 174 Tryz.zeroCells174 (heap_alloc_new _ _) B.out (by rw [oK];kernel_rfl) A.out ?_;rw [World.setRow_alloc_new]);rw [aJX H];have F:=t.size;go_loopw [0,13] (fun c p wr=>∃a:Nat,a<=e/\p=.int .i64 (a:Int)/\c=.int .u32 ((tX (b.take a) (4294967295 - f):Nat):Int)/\Bk wr w1.heap.size 174 crcC/\Below g.heap.size g wr) (fun _ p _=>e -(intOf p).toNat)
 case atStart=>exact ⟨0,by omega,rfl,by rw [List.take_zero];rfl,Bk.new _ _ _,t.alloc F _⟩
 case round=>
  obtain ⟨a,S,rfl,rfl,u,m⟩:=hrel;by_cases G:a < e
  · obtain ⟨M,U,W,rfl,Q,i,D⟩:=(z.out.below m).get G;rw [zAf] at i;obtain ⟨d,y⟩:∃d,b[a]?=some d:=⟨_,zAa oM⟩;rw [y] at i;injection i with i;subst i;have I:b.take (a+1)=b.take a++ [d]:=(by rw [zAv,y];rfl);have l:=wS (b.take a) d (4294967295 - f);rw [<-I] at l;have x:=rL (b.take a) (4294967295 - f) oM;obtain ⟨c,j⟩:=eqx (tX (b.take a) (4294967295 - f));rw [j] at l x;rw [j];have n:=aIx x d;have J:=d.toNat_lt;have s:bits .xor .u8 ((c:Int)% 256) (d.toNat:Int)=(((c % 256)^^^ d.toNat:Nat):Int):=(by have:((c:Int)% 256)=((c % 256:Nat):Int):=oM;rw [this,aCE _ oM J]);obtain ⟨k,K⟩:=eqx ((c % 256)^^^ d.toNat);rw [K] at l n s;have N:wr.cell? ⟨w1.heap.size,k,none⟩=some (.int .u32 ((jF k:Nat):Int)):=(u.cell k).trans (aIy n);have O:bits .xor .u32 ((jF k:Nat):Int) ((c:Int)/ 256)=((jF k ^^^(c / 256):Nat):Int):=(by have:((c:Int)/ 256)=((c / 256:Nat):Int):=oM;rw [this,lZ _ _ (aAf n) oM]);unfold bv at D;go_wp2_with fail;go_roundw
    case rel=>exact ⟨a+1,by omega,by go_num,by rw [l],u,m⟩
    case measure=>simp [intOf];omega
  · have E:a=e:=oM;subst E;rw [zAg (by omega:b.length<=a)];have s:=aJX (rL b (4294967295 - f) oM);go_wp2_with fail;go_ret;exact ⟨rfl,m⟩
def lL {A AP:Option Addr} {n c:Nat} (m:Nat) {b:List UInt8} {w:World} (s:Rd w w.heap.size 1 A n (b.map bv)) (q:n<=1099511627776) (r:Rd w w.heap.size 1 AP 1 [.slice A n c]):
 Calls prog 48 #[.slice AP 1 m] w fun i v=>i=.returned (.int .u32 ((lD b:Nat):Int))/\Below w.heap.size w v:=by
 obtain ⟨l,t,z,rfl,p,f,j⟩:=r.get (k:=0) oM;injection f with f;subst f;go_enter func48,ntmps48;go_wp2_with fail;go_loopw [3,8] (fun u g wr=>∃a:Nat,a<=1/\g=.int .i64 (a:Int)/\u=.int .u32 (((if a=0 then 0 else lD b):Nat):Int)/\Below w.heap.size w wr) (fun _ g _=>1 -(intOf g).toNat)
 case atStart=>exact ⟨0,by omega,rfl,rfl,Below.refl _ _⟩
 case round=>
  obtain ⟨a,x,rfl,rfl,d⟩:=hrel;by_cases y:a < 1
  · have e:a=0:=oM;subst e;have j:wr.cell? ⟨l,t,none⟩=some (.slice A n c):=(d.cell p).trans j;rw [zBx rfl];go_wp2_with fail;refine (aDk 0 oM c ((s.below d).mono d.size) q).mono ?_;rintro i w1 ⟨rfl,o⟩;go_wp2_with fail;go_roundw
    case rel=>exact ⟨1,by omega,rfl,rfl,d.trans (o.mono d.size)⟩
    case measure=>simp [intOf]
  · have e:a=1:=oM;subst e;rw [zBw oM];go_wp2_with fail;go_ret;exact ⟨rfl,d⟩
def rV {A:Option Addr} {n:Nat} (d:Nat) {B:Nat} {b:List UInt8} {w:World} (s:Rd w B 1 A n (b.map bv)) (a4:B<=w.heap.size) (aa:n<=1000000):
 Calls prog 134 #[.slice A n d] w fun e U=>∃u F,e=.returned (.slice u (dP b).length F)/\Made U w.heap.size 5 1 u (dP b).length F ((dP b).map bv)/\Below w.heap.size w U:=by
 have r:b.length=n:=by have:=s.1;simpa using this
 obtain ⟨k0,m⟩:=eqx ((bS n).length);have a9:k0<=11:=by rw [<-m];exact bZ n
 obtain ⟨q,i⟩:=eqx ((dP b).length);have a7:q<=2000000:=by rw [<-i,gR,r,m];omega
 obtain ⟨V,a1,X,Z⟩:=hqq4 (s.mono a4) m i r;have a8:=rM b;rw [i];clear s m i r;go_enter func134,ntmps134;go_wp2_with fail;refine (xT (l:=[n]) (bs:=(bS n)) (k:=k0) _ (pR n) a1.out (Rd.made _ _ 1 1 _ rfl) nL (by simp;omega) oM).mono ?_;rintro e w1 ⟨v,G,rfl,M,I⟩;have j:=((Below.refl w.heap.size w).alloc nL _).trans (I.mono (by simp));have Q:=M.rd;obtain ⟨o,D,z⟩:=hqq3 (V.out.below j) Q j;have t:=j.size;clear M I j Q;go_wp2_with fail;refine (lL (A:=A) (n:=n) (c:=d) (b:=b) _ (((o.out.alloc t _).mono (by simp;omega))) oM (Rd.made _ _ 1 1 _ rfl)).mono ?_;rintro e ae ⟨rfl,J⟩;have f:=((Below.refl w1.heap.size w1).alloc nL _).trans (J.mono (by simp));obtain ⟨y,E,C⟩:=hqq3 (o.out.below (f.mono t)) (D.out.below f) (z.out.trans (f.mono t));have ab:=f.size;clear f J o D z;go_wp2_with fail;refine (aAu (lD b) _).mono ?_;rintro e a ⟨x,H,rfl,O,g⟩;have R:=O.rd;obtain ⟨W,a3,a0,p⟩:=hqq4 (y.out.below (g.mono oM)) (E.out.below (g.mono oM)) R (C.out.trans (g.mono oM));have ac:=g.size;clear g O R y E C;go_wp2_with fail
 have L:=mG (A0:=(some ⟨a.heap.size,0,none⟩)) (m0:=3) (B:=(a.heap.size+1)) (ss:=[⟨v,k0,G,bS n⟩,⟨A,n,d,b⟩,⟨x,4,H,rH (lD b)⟩]) (T:=(dP b)) (N:=q) (w:=(a.alloc (.cells #[.slice v k0 G,.slice A n d,.slice x 4 H] 34))) 3 (by unfold dP;rw [Z.out];simp [gK]) X.out ((Rd.made a _ 1 3 _ rfl).mono (by simp)) (by
  intro ad S;simp at S;rcases S with rfl | rfl | rfl;exact (a3.out.mono oM).alloc oM _ |>.mono oM;exact (W.out.mono oM).alloc oM _ |>.mono oM
  · exact (a0.out.alloc oM _).mono oM) (by simp) oM oM
 refine L.mono ?_;clear L;rintro e af ⟨a5,a6,rfl,P,K⟩;have a2:=lhd (P.mono (B':=w.heap.size) (by simp;have:=p.out.size;omega));have Y:=lhd (p.out.trans ((((Below.refl a.heap.size a).alloc nL _).trans (K.mono (by simp))).mono p.out.size));clear P K;go_wp2_with fail;go_ret;exact ⟨_,_,rfl,a2.out,Y.out⟩
end
section
def aF7 {a:List UInt8} {b:List Nat} (i:IsSuf (aF a) b) {c:Nat} (f:b[c]?=some 0):(aD (aF a) b)[c]?=some 0:=by
 unfold aD;rw [zAf,f];obtain ⟨d,e,g⟩:=eK a;show some (bE (aF a) 0)=some 0;rw [bI oM,d];have:a.length+1 - 1=a.length:=oM;rw [this,e]
def aEh {a:List UInt8} {e:List Nat} (i:IsSuf (aF a) e):(aD (aF a) e).count 0=1:=by
 obtain ⟨c,f,g⟩:=eK a;unfold aD;rw [List.count_eq_countP,List.countP_map,i.count,c,fQ (m:=a.length) _ (fun b=>(aF a).getD b 0==0)]
 · rw [List.range_succ,List.countP_append];have j:(List.range a.length).countP (fun b=>(aF a).getD b 0==0)=0:=List.countP_eq_zero.2 fun b d k=>by have:=g b (zCj.1 d);rw [zCr] at k;omega
   rw [j];simp only [List.countP_singleton,f];rfl
 · simp only [Function.comp];rw [bI oM,c];congr 2
 · intro b d;simp only [Function.comp];rw [aT oM]
def aF4 {b:List Nat} {c d:Nat} (g:b[c]?=some d) (a:Nat):cB b a (c+1)=if a=d then cB b a c+1 else cB b a c:=by
 unfold cB;rw [zAv,g,zCc];by_cases e:a=d;subst e;rw [zBx rfl];simp;omega
 · rw [zBw e];have:([d]:List Nat).count a=0:=(by rw [List.count_eq_zero];intro f;simp at f;exact e f);show _+((b.take c).count a+ [d].count a)=_;rw [this,zBq]
end
section
open Go.RowKit
def aEG {l m:Option Addr} {a:Nat} (t u:Nat) {i:Nat} {e:List Nat} {c:World} (j:Rd c i 1 l a (e.map sv)) (p:Rd c i 1 m a (e.map sv)) (n:i<=c.heap.size) (F:a<=1099511627776):
 Calls prog 274 #[.slice l a t,.slice m a u] c fun v A=>v=.returned (.bool true)/\Below c.heap.size c A:=by
 have D:e.length=a:=by have:=j.1;simpa using this
 obtain ⟨r,s⟩:=hqq2 j p;clear j p;go_enter func274,ntmps274;go_wp2_with fail;go_loopw [13] (fun k wr=>∃d:Nat,d<=a/\k=.int .i64 (d:Int)/\Below c.heap.size c wr) (fun k _=>a -(intOf k).toNat)
 case atStart=>exact ⟨0,by omega,rfl,Below.refl _ _⟩
 case round=>
  obtain ⟨d,E,rfl,b⟩:=hrel;by_cases o:d < a
  · obtain ⟨b1,G,I,rfl,B,f,w⟩:=(r.out.below (b.mono n)).get o;obtain ⟨b2,H,J,rfl,C,g,x⟩:=(s.out.below (b.mono n)).get o;obtain ⟨q,z⟩:∃q,e[d]?=some q:=⟨_,zAa oM⟩;rw [zAf,z] at f g;injection f with f;injection g with g;subst f g;unfold sv at w x;go_wp2_with fail;go_quiet (fail);go_wp2_with fail;go_roundw
    case rel=>exact ⟨d+1,by omega,by go_num,⟨b.os,b.tape,b.output,b.size,b.block⟩⟩
    case measure=>simp [intOf];omega
  · have y:d=a:=oM;subst y;go_wp2_with fail;go_ret;exact ⟨rfl,b⟩
def xP {A A2:Option Addr} {n:Nat} (a b:Nat) {B:Nat} {L:List Nat} {w:World} (d:Rd w B 1 A n (L.map sv)) (e:Rd w B 1 A2 n (L.map sv)) (f:B<=w.heap.size) (j:n<=1099511627776):
 Calls prog 241 #[.slice A n a,.slice A2 n b] w fun c k=>c=.returned (.bool true)/\Below w.heap.size w k:=by
 have i:=aEG a b d e f j;clear d e;go_enter func241,ntmps241;go_wp2_with fail;refine i.mono ?_;rintro c w1 ⟨rfl,g⟩;go_wp2_with fail;go_ret;exact ⟨rfl,g⟩
def yB {A A2:Option Addr} {n n2:Nat} (d e:Nat) {B:Nat} {l l2:List UInt8} {w:World} (f:Rd w B 1 A n (l.map bv)) (g:Rd w B 1 A2 n2 (l2.map bv)):
 Calls prog 171 #[.slice A n d,.slice A2 n2 e] w fun i p=>i=.returned (.bool (l==l2))/\Below w.heap.size w p:=by
 have m:(convert 34 9 (.slice A n d)).run prog w=.ok (.string ⟨l.toArray⟩) w:=vL (P:=prog) 34 9 5 underlying34 underlying5 underlying9 f;have o:(convert 34 9 (.slice A2 n2 e)).run prog w=.ok (.string ⟨l2.toArray⟩) w:=vL (P:=prog) 34 9 5 underlying34 underlying5 underlying9 g;obtain ⟨q,a⟩:∃c:ByteArray,⟨l.toArray⟩=c:=⟨_,rfl⟩;obtain ⟨r,b⟩:∃c:ByteArray,⟨l2.toArray⟩=c:=⟨_,rfl⟩;rw [a] at m;rw [b] at o;have j:q.toList=l:=by rw [<-a,ByteArray.toList_eq]
 have k:r.toList=l2:=by rw [<-b,ByteArray.toList_eq]
 clear a b f g;go_enter func171,ntmps171;go_wp2_with fail;go_ret;refine ⟨?_,Below.refl _ _⟩;rw [<-j,<-k];rfl
def aBA {n g u:Nat} {A B C z:Value} {q p:Nat} {c:List Nat} {a:List (Nat×Nat)} {y:List Bool} {t:List Nat} (row:Nat) {d:World} (i:PermAt d n g u A B C z q p c a y t) (m:c.Pairwise (fun r s=>aC a r < aC a s)) (x:c.length<=1099511627776) (l:∀b∈c,aC a b≠row):
 Calls prog 164 #[g,(row:Int)] d fun f D=>f=.returned (.int .i64 (-1))/\Below d.heap.size d D:=by
 have e:=jK row i m x;have k:decide (∃b∈c,aC a b=row)=false:=by simp only [decide_eq_false_iff_not];rintro ⟨b,v,w⟩;exact l b v w
 rw [k] at e;clear i m l k;go_enter func164,ntmps164;go_wp2_with fail;refine e.mono ?_;rintro f w1 ⟨rfl,j⟩;have o:=lhd j;clear e j;go_wp2_with fail;go_ret;exact ⟨rfl,o.out⟩
def aBz {E p Q:Nat} {a1 a2 a3 a0:Value} {L K:Nat} {e:List Nat} {a:List (Nat×Nat)} {Z:List Bool} {P:List Nat} {row i:Nat} {r:World} (g:PermAt r E p Q a1 a2 a3 a0 L K e a Z P) (m:e.Pairwise (fun j o=>aC a j < aC a o)) (T:e.length<=1099511627776) (a8:a.length<=1099511627776) (l:i∈e) (u:aC a i=row):
 Calls prog 164 #[p,(row:Int)] r fun x a4=>x=.returned (.int .i64 ((aJ a i:Nat):Int))/\Below r.heap.size r a4:=by
 have q:=jK row g m T;have B:decide (∃w∈e,aC a w=row)=true:=zBz ⟨i,l,u⟩;rw [B] at q;obtain ⟨d,n,W⟩:=(tG m row).2 ⟨i,l,u⟩;obtain ⟨f,D⟩:∃f,(e.countP fun w=>decide (aC a w < row))=f:=⟨_,rfl⟩;rw [D] at n q;have Y:d=i:=by
  obtain ⟨j,A,s⟩:=zBo.1 l;obtain ⟨o,t⟩:=zAc.1 n;rcases Nat.lt_trichotomy j f with b | b | b;have:=zAr.1 m j f A o b;rw [s,t] at this;omega
  · subst b;rw [<-s,<-t]
  have:=zAr.1 m f j o A b;rw [s,t] at this;omega
 subst Y;have af:f < e.length:=(zAc.1 n).1;have X:d < a.length:=g.lt d l;obtain ⟨y,N,V,ac,R⟩:=World.ownsRow.form g.orow oM;obtain ⟨z,O,U,ad,S⟩:=World.ownsRow.form g.lrow oM;subst V;subst U;have C:=(cC a d X).2;obtain ⟨F,J,H⟩:=hqq3 g n C;have ae:(f:Int) < (e.length:Int):=oM;have ag:(d:Int) < (a.length:Int):=oM;clear g m B W D n C l u;go_enter func164,ntmps164;go_wp2_with fail;refine q.mono ?_;rintro x w1 ⟨rfl,k⟩;have b:=F.out.below k;have a5:∀c,(w1.drewN c).cell? ⟨p,1,none⟩=some (.slice (some z) a.length O):=fun c=>(b.blk.cell 1).trans rfl;have a6:∀c,(w1.drewN c).cell? ⟨p,2,none⟩=some (.slice (some y) e.length N):=fun c=>(b.blk.cell 2).trans rfl;have ab:=b.blk.lt;have a7:∀c,(w1.drewN c).cell? ⟨y,f,none⟩=some (.int .i64 (d:Int)):=fun c=>(World.ownsRow.cellAt b.orow f oM).trans (by rw [zAf,J.out];rfl);have M:∀c,(w1.drewN c).cell? ⟨z,d*2+1,none⟩=some (.int .i64 ((aJ a d:Nat):Int)):=fun c=>(World.ownsRow.cellAt b.lrow (d*2+1) oM).trans H.out;have G:=lhd k;have a9:=zAl R k.size;have aa:=zAl S k.size;obtain ⟨ah,v⟩:=eqx (aJ a d);rw [v] at M;have I:=lhd v;clear q k b v;go_wp2_with fail;go_quiet (fail);go_wp2_with fail;go_ret;exact ⟨by rw [I.out];rfl,below_drewN G.out _⟩
def aHM {c e:List Nat} (g:IsSuf c e) (d:Bool) (a:List Nat) {b:Nat} (q:b < e.length):Pq c d a e[b]=decide (b < Nq c d a):=by
 have o:e.countP (Pq c d a)=Nq c d a:=g.count _;have n:=sT (P:=Pq c d a) g.sorted (fun j w t u=>aBt a t u);rw [o] at n;rw [Bool.eq_iff_iff,zCa];constructor;intro m;by_cases k:b < Nq c d a;exact k;exfalso;have p:∀j∈e.take (b+1),Pq c d a j=true:=(by intro j s;obtain ⟨i,r,rfl⟩:=zBo.1 s;rw [zAj] at r;rw [List.getElem_take];rcases zBe i b with f | f;exact aBt a (zAr.1 g.sorted i b oM q f) m;obtain rfl:i=b:=oM;exact m);have f:=List.countP_eq_length.2 p;rw [zAj] at f;have v:(e.take (b+1)).countP (Pq c d a)<=e.countP (Pq c d a):=(List.take_sublist _ _).countP_le;omega;intro k;have l:e[b]∈e.take (Nq c d a):=(by rw [List.mem_take_iff_getElem];exact ⟨b,by omega,rfl⟩);rw [n,zCw] at l;exact l.2
def aJf {c f:List Nat} (g:IsSuf c f) (a:List Nat) {b:Nat} (j:b < f.length):sW c a f[b]=true↔Nq c false a<=b/\b < Nq c true a:=by
 obtain ⟨d,i⟩:=aIP c a f[b];rw [aHM g false a j,aHM g true a j] at d;rw [aHM g false a j] at i;constructor;intro l;rw [l] at d i;constructor;rcases zBe b (Nq c false a) with e | e;exact absurd ⟨zBz e,rfl⟩ i;exact e;simpa using d;rintro ⟨e,k⟩;rw [zBz k,zBy oM] at d;simpa using d.symm
def aDZ {α:Type} (d:α->Bool) (b:List α) {a c:Nat} (q:a<=c) (r:c<=b.length) (k:∀j (s:j < b.length),d b[j]=true↔a<=j/\j < c):(b.drop a).take (c - a)=b.filter d:=by
 have m:b=b.take a++((b.drop a).take (c - a)++(b.drop a).drop (c - a)):=by rw [zAu,zAu]
 conv=>rhs;rw [m]
 rw [List.filter_append,List.filter_append];have n:(b.take a).filter d= []:=List.filter_eq_nil_iff.2 fun l g f=>by obtain ⟨i,e,rfl⟩:=zBo.1 g;rw [zAj] at e;rw [List.getElem_take] at f;have:=(k i oM).1 f;omega
 have o:((b.drop a).take (c - a)).filter d=(b.drop a).take (c - a):=List.filter_eq_self.2 fun l g=>by obtain ⟨i,e,rfl⟩:=zBo.1 g;rw [zAj,zAw] at e;rw [List.getElem_take,List.getElem_drop];exact (k (a+i) oM).2 ⟨by omega,by omega⟩
 have p:((b.drop a).drop (c - a)).filter d= []:=List.filter_eq_nil_iff.2 fun l g f=>by obtain ⟨i,e,rfl⟩:=zBo.1 g;rw [zAw,zAw] at e;rw [List.getElem_drop,List.getElem_drop] at f;have:=(k (a+(c - a+i)) oM).1 f;omega
 rw [n,o,p];simp
def fL (a b:List UInt8):List Nat:=(List.range (a.length+1)).filter (sW (aF a) (cZ b))
def aB6 {b:List UInt8} {d:List Nat} (c:IsSuf (aF b) d) (a:List UInt8):((d.drop (Nq (aF b) false (cZ a))).take (Nq (aF b) true (cZ a) - Nq (aF b) false (cZ a))).Perm (fL b a):=by
 have e:Nq (aF b) false (cZ a)<=Nq (aF b) true (cZ a):=by rw [aEE];omega
 rw [aDZ (sW (aF b) (cZ a)) d e (by rw [c.len];exact aJ3 _ _ _) (fun g f=>aJf c (cZ a) f)];have:=c.perm.filter (sW (aF b) (cZ a));rw [aK] at this;exact this
def rI:∀(c d:List Int),c.Pairwise (fun a b=>a<=b)->d.Pairwise (fun a b=>a<=b)->c.Perm d->c=d
 | [],d,_,_,e=>e.nil_eq.symm ▸ rfl
 | a::c, [],_,_,e=>by simp at e
 | a::c,b::d,ha,hb,e=>by obtain ⟨j,k⟩:=List.pairwise_cons.1 ha;obtain ⟨l,m⟩:=List.pairwise_cons.1 hb;have n:a=b:=(by have g:a∈b::d:=e.mem_iff.1 (by simp);have i:b∈a::c:=e.mem_iff.2 (by simp);rcases List.mem_cons.1 g with f | g;exact f;rcases List.mem_cons.1 i with f | i;exact f.symm;have:=j b i;have:=l a g;omega);subst n;rw [rI c d k m (List.perm_cons a |>.1 e)]
def aBY {b:List UInt8} {e:List Nat} (d:IsSuf (aF b) e) (a:List UInt8):(((e.drop (Nq (aF b) false (cZ a))).take (Nq (aF b) true (cZ a) - Nq (aF b) false (cZ a))).map fun c:Nat=>(c:Int)).mergeSort (fun f g=>decide (f<=g))=(fL b a).map fun c:Nat=>(c:Int):=by
 refine rI _ _ ?_ ?_ ((List.mergeSort_perm _ _).trans ((aB6 d a).map _));have:=List.pairwise_mergeSort (le:=fun f g:Int=>decide (f<=g)) (fun i j k l m=>by simp at*;omega) (fun i j=>by simp;omega) (((e.drop (Nq (aF b) false (cZ a))).take (Nq (aF b) true (cZ a) - Nq (aF b) false (cZ a))).map fun c:Nat=>(c:Int));exact this.imp fun d=>by simpa using d
 rw [List.pairwise_map];unfold fL;refine (List.Pairwise.filter _ List.pairwise_lt_range).imp fun {i j} d=>?_;omega
end
end Go.Proofs.YtcoooelofcejbaaGreatDoor
