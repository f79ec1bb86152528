/- Lemmas of the walk. Conditions: each its own. -/
import Derived.Test.YtlghmcogeipojaaGreatDoorPn4
set_option linter.all false
set_option maxRecDepth 100000
set_option maxHeartbeats 4000000
open Go.Proofs.Tryz
namespace Go.Proofs.YtlghmcogeipojaaGreatDoor
open Go.RowKit Go.Shelf Go
def aM (a:List Nat) (lv b:Nat):List Bool:=(a.filter λc=>bF c lv==b).map (iF · lv)
def rG (a) {lv} (e:lv < 9):bF a (lv+1)=2*bF a lv+(if iF a lv then 1 else 0):=by
 unfold bF iF;have c:9 -(lv+1)=8 - lv:=oM;have d:9 - lv=(8 - lv)+1:=oM;rw [c,d,zEM,<-zFg];generalize a / 2 ^(8 - lv)=q;by_cases b:q % 2=1;simp [b];omega;simp [b];omega
def rF {s} (a:s < 257):bF s 0=0:=by
 unfold bF;exact zGq oM
def rH (a):bF a 9=a:=by
 unfold bF;simp
def nY {s} (lv) (a:s < 257) (b:lv<=9):bF s lv < 2 ^ lv:=by
 unfold bF;rw [zEP (Nat.pos_of_ne_zero zs),<-Nat.pow_add,show lv+(9 - lv)=9 by omega];omega
def aHc (d lv a) (i:lv < 9):(aM d lv (bF a lv)).count (iF a lv)=d.countP (λk=>bF k (lv+1)==bF a (lv+1)):=by
 induction d with
 | nil=>rfl
 | cons b n j=>
  have e:=rG b i;have f:=rG a i;unfold aM at j⊢;rw [zBn,<-j,zEu];by_cases c:bF b lv=bF a lv
  .rw [zBx (by simp [c]),zEJ,zDg];by_cases g:iF b lv=iF a lv
   .have:bF b (lv+1)=bF a (lv+1):=(by rw [e,f,c,g]);simp [g,this]
   .have:bF b (lv+1)≠bF a (lv+1):=(by rw [e,f,c];cases l:iF b lv <;> cases m:iF a lv <;> simp_all);simp [g,this]
  .rw [zBw (by simp [c])];have:bF b (lv+1)≠bF a (lv+1):=(by rw [e,f];cases iF b lv <;> cases iF a lv <;> simp <;> omega);simp [this]
def aJq (c lv b a):(aM c lv b).take ((c.take a).countP λi=>bF i lv==b)=aM (c.take a) lv b:=by
 induction c generalizing a with
 | nil=>simp [aM]
 | cons e j g=>
  rcases a with _ | a
  .simp [aM]
  .have:=g a;unfold aM at this⊢;rw [zDS,zBn,zEu,zEu];by_cases d:bF e lv=b
   .simp only [d,beq_self_eq_true,if_true,zEJ,zDS,this]
   .have f:(bF e lv==b)=false:=(by simp [d]);simp only [f,zEK,if_false,zBq,this]
def iX (a lv b):(aM a lv b).length=a.countP λc=>bF c lv==b:=by
 unfold aM;rw [zBc,zFk]
def gO (a:List Nat) (b d lv:Nat):Nat:=(a.take b).countP λc=>bF c lv==bF d lv
def nG {L k s0} (e:k<=L.length) (b:∀a∈L,a < 257) (c:s0 < 257):gO L k s0 0=k:=by
 unfold gO;rw [zDJ.2 (λa d=>by
  have:=b a (zFy d);simp [rF this,rF c]),zAj]
 omega
def nH (b c a) {lv} (d:lv < 9):((aM b lv (bF a lv)).take (gO b c a lv)).count (iF a lv)=gO b c a (lv+1):=by
 unfold gO;rw [aJq,aHc _ _ _ d]
def aId (a b c lv):gO a b c lv<=(aM a lv (bF c lv)).length:=by
 unfold gO;rw [iX];exact (zEY b a).countP_le
def aCu (a b c):gO a b c 9=(a.take b).count c:=by
 unfold gO;rw [zEU];congr 1;funext s;rw [rH,rH]
def eG (b:Nat->Nat) (lv c:Nat):List Value:=(List.range c).flatMap λa=> [.pointer (some ⟨b a,0,none⟩),.int .i64 lv,.int .i64 a]
def jT (b lv a):eG b lv (a+1)=eG b lv a++ [.pointer (some ⟨b a,0,none⟩),.int .i64 lv,.int .i64 a]:=by
 unfold eG;rw [zDx,zDI];simp
def zW (b lv a):(eG b lv a).length=a*3:=by
 induction a with
 | zero=>rfl
 | succ a c=>rw [jT,zAi,c];simp;omega
def gF (c lv b a) (k:a < b):(eG c lv b)[a*3]?=some (.pointer (some ⟨c a,0,none⟩))/\(eG c lv b)[a*3+1]?=some (.int .i64 lv)/\(eG c lv b)[a*3+2]?=some (.int .i64 a):=by
 induction b with
 | zero=>omega
 | succ b j=>
  rw [jT];by_cases e:a=b;subst e;have d:=zW c lv a;refine ⟨?_,?_,?_⟩;rw [zAo oM,d,zDK];rfl;rw [zAo oM,d,show a*3+1 - a*3=1 by omega];rfl;rw [zAo oM,d,show a*3+2 - a*3=2 by omega];rfl;have d:=zW c lv b;obtain ⟨f,g,i⟩:=j oM;refine ⟨?_,?_,?_⟩;rw [zAn oM];exact f;rw [zAn oM];exact g;rw [zAn oM];exact i
def aCP (c d lv a) (e:∀b,b < a->c b=d b):eG c lv a=eG d lv a:=by
 induction a with
 | zero=>rfl
 | succ a f=>rw [jT,jT,f (λb g=>e b oM),e a oM]
def ShelfRow (w:World) (B:Nat) (e:Value) (d:List Nat) (lv c:Nat):Prop:=
 ∃(b:Nat->Nat),w.ownsRow B 184 3 e c (eG b lv c)/\∀a,a < c->B<=b a/\TreeAt w (b a) (aM d lv a)
def ShelfRow.b {w w' B g a lv e} (j:ShelfRow w B g a lv e) (d:Vis w w'):ShelfRow w' B g a lv e:=by
 obtain ⟨i,k,b⟩:=j;exact ⟨i,d.own k dC dC,λf c=>⟨(b f c).1,(b f c).2.b d⟩⟩
def ShelfRow.below {w d B c a lv b} (e:ShelfRow w B c a lv b) (f:Below w.heap.size w d):ShelfRow d B c a lv b:=e.b (kb f)
def WaveAt (w:World) (B c:Nat) (a:List Nat):Prop:=
 B<=c/\∃(b:Nat->Value) (d:Int),Bk w c 181 (wcells b (a.length:Int) d)/\∀lv,lv < 9->ShelfRow w B (b lv) a lv (2 ^ lv)
def WaveAt.b {w w' B b a} (e:WaveAt w B b a) (c:Vis w w'):WaveAt w' B b a:=by
 obtain ⟨f,d,m,g,i⟩:=e;obtain ⟨l,j⟩:=c.Q g;exact ⟨f,d,l,j,λlv k=>(i lv k).b c⟩
def WaveAt.below {w c B b a} (d:WaveAt w B b a) (e:Below w.heap.size w c):WaveAt c B b a:=d.b (kb e)
abbrev VB (B:Nat):World->World->Prop:=VisK (λa=>B<=a)
def bD {B w b} (a:VB B w.drew b):VB B w b:=⟨⟨a.1.os,a.1.tape,a.1.output,a.1.size,a.1.block⟩,⟨a.2.os,a.2.tape,a.2.output,a.2.size,a.2.block⟩⟩
def VB.e {B w a} (c:VB B w a) (hB:B<=w.heap.size):Below B w a:=c.2.e hB (λd e b=>by have:=b;omega)
def VB.N {w B a e} (f:Bk w a 181 e) (hB:B<=a) (b):VB B w (w.setCell ⟨a,10,none⟩ (.int .i64 b)):=⟨Vis.N f b,ka (F:=λd=>B<=d) (ke _ _) (p:=⟨a,10,none⟩) (.inl hB) _⟩
@[irreducible] def rowC (c:Nat->Value) (i:Nat):Array Value:=Array.ofFn (n:=i) λg=>c g.val
def rB (b:Nat->Value) (a):(rowC b a).size=a:=by unfold rowC;simp
def pO (b:Nat->Value) {c a} (d:a < c):(rowC b c)[a]?=some (b a):=by
 unfold rowC;rw [zGe,dif_pos d]
def aKA (f:Nat->Value) {d c} (i:c < d) (g):(rowC f d).setIfInBounds c g=rowC (λb=>if b=c then g else f b) d:=by
 apply zEO;intro b;rcases zBe b d with a | a
 .rw [pO _ a];by_cases e:c=b
  .subst e;rw [zDt (by rw [rB];exact i),zBx rfl]
  .rw [zCe e,pO _ a,zBw (λj=>e j.symm)]
 .rw [zDn (by simp [rB];exact a),zDn (by rw [rB];exact a)]
def aGo (c b):rowC (λ_=>c) b=Array.replicate b c:=by
 apply zEO;intro d;rcases zBe d b with a | a
 .rw [pO _ a];simp [a]
 .rw [zDn (by rw [rB];exact a),zDn (by simpa using a)]
structure Bits (w:World) (B gB m:Nat) (T:Nat->Value) (R:Nat->List Bool):Prop where
 a:Bk w gB 119 (rowC T m)
 own:∀p,p < m->w.ownsRow B 4 1 (T p) (R p).length ((R p).map Value.bool)
 apart:∀p q,p < m->q < m->p≠q->∀b,(T p).ownBlock=some b->(T q).ownBlock≠some b
def Bits.same {w w' B e f} {d:Nat->Value} {R:Nat->List Bool} (c:Bits w B e f d R) (j:∀a b,Bk w a 119 b->Bk w' a 119 b) (k:∀a b,Bk w a 4 b->Bk w' a 4 b):Bits w' B e f d R:=
 ⟨j _ _ c.a,λl i=>aC (c.own l i) λa b _ g=>k a b g,c.apart⟩
def Bits.below {w f B c e} {b:Nat->Value} {R:Nat->List Bool} (j:Bits w B c e b R) (d:Below w.heap.size w f):Bits f B c e b R:=j.same (λg i a=>a.below d a.lt) (λg i a=>a.below d a.lt)
def Bits.start (w B a b) (c:Bk w a 119 (rowC (λ_=>.slice none 0 0) b)):Bits w B a b (λ_=>.slice none 0 0) (λ_=> []):=
 ⟨c,λe g=>ki _ _ _ _,λe i _ _ _ f d=>by simp [Value.ownBlock] at d⟩
def Bits.push {w w1 B n q a} {i:Nat->Value} {R:Nat->List Bool} {v b} (j:Bits w B n q i R) (r:a < q) (H:Keep (λb=>(i a).ownBlock=some b) w w1) (K:w1.ownsRow B 4 1 v ((R a).length+1) ((R a).map Value.bool++ [.bool b])) (u:v.ownBlock=(i a).ownBlock∨∃e,v.ownBlock=some e/\w.heap.size<=e):
 Bits (w1.setCell ⟨n,a,none⟩ v) B n q (λp=>if p=a then v else i p) (λp=>if p=a then R a++ [b] else R p):=by
 have J:(i a).ownBlock≠some n:=by intro d;exact bC (j.own a r) j.a dC d.symm
 have A:=H.d j.a J;have E:∀e m,Bk w1 e 4 m->Bk (w1.setCell ⟨n,a,none⟩ v) e 4 m:=λe m k=>k.m (Bk.ne k A dC) _;refine ⟨?_,λc g=>?_,λc y g D x s o=>?_⟩;rw [<-aKA i r v];exact A.set a v;by_cases d:c=a;subst d;rw [zBx rfl,zBx rfl,zAi,zAz];exact aC K λe m _ k=>E e m k;rw [zBw d,zBw d];refine aC (j.own c g) λe m k I=>E e m (H.d I ?_);exact λf=>j.apart c a g r d e k f;have M:∀c,c < q->∀f,(i c).ownBlock=some f->f < w.heap.size:=λc g f l=>((j.own c g).lt f l).2;have F:∀c,c < q->c≠a->∀f,v.ownBlock=some f->(i c).ownBlock≠some f:=(by intro c g L f l G;rcases u with u |⟨e,k,N⟩;rw [u] at l;exact j.apart a c r g (λd=>L d.symm) f l G;rw [k] at l;cases l;have:=M c g _ G;omega);by_cases t:c=a;subst t;rw [zBx rfl] at o;rw [zBw (λd=>x d.symm)];exact F y D (λd=>x d.symm) s o;rw [zBw t] at o;by_cases z:y=a;subst z;rw [zBx rfl];intro l;exact F c g t s l o;rw [zBw z];exact j.apart c y g D x s o
def aJr (c b lv a):aM (c++ [b]) lv a=if a=bF b lv then aM c lv a++ [iF b lv] else aM c lv a:=by
 unfold aM;rw [zEe,zAz];by_cases d:a=bF b lv
 .rw [zBx d];simp [d]
 .rw [zBw d];have:(bF b lv==a)=false:=zt;simp [this]
def Bits.congr {w B e c} {d:Nat->Value} {R R':Nat->List Bool} (b:Bits w B e c d R) (g:∀a,a < c->R a=R' a):Bits w B e c d R':=
 ⟨b.a,λa f=>by rw [<-g a f];exact b.own a f,b.apart⟩
def fX {w e b n m a d o} (k:w.ownsRow e b n d m o) (c:d.ownBlock=some a):∃f,Bk w a b f:=by
 rcases k.2 with ⟨rfl,_⟩|⟨j,p,g,rfl,_,l,_⟩
 .simp [Value.ownBlock] at c
 have i:j=a:=(by simpa [Value.ownBlock] using c);subst i;exact ⟨g,l⟩
def TreeAt.a6 {w j c f d} (l:TreeAt w f d) (p:Keep c w j) (o:∀a,c a->∃b e,Bk w a b e/\(b=181∨b=184)):TreeAt j f d:=by
 refine l.same λa b e i g=>p.d g λm=>?_;obtain ⟨r,q,n,ht⟩:=o a m;have k:=(aU g n).1;subst k;rcases ht with rfl | rfl;exact absurd i dC;exact absurd i dC
def ShelfRow.a5 {w p b B c o f lv m} (r:ShelfRow w B o f lv m) (l:Keep (λa=>a=b) w p) (k:Bk w b 181 c):ShelfRow p B o f lv m:=by
 obtain ⟨q,s,g⟩:=r;refine ⟨q,aC s λa c _ i=>l.d i λd=>?_,λn j=>⟨(g n j).1,(g n j).2.a6 l λa d=>by
  have e:a=b:=d;subst e;exact ⟨_,c,k,.inl rfl⟩⟩⟩
 have e:a=b:=d;subst e;exact absurd (aU i k).1 dC
def ShelfRow.mono {w B B' f a lv d} (i:ShelfRow w B f a lv d) (hB:B'<=B):ShelfRow w B' f a lv d:=by
 obtain ⟨g,j,b⟩:=i;exact ⟨g,cG j hB,λe c=>⟨zAk hB (b e c).1,(b e c).2⟩⟩
def WaveAt.mono {w B B' b a} (d:WaveAt w B b a) (hB:B'<=B):WaveAt w B' b a:=by
 obtain ⟨e,c,j,f,g⟩:=d;exact ⟨zAk hB e,c,j,f,λlv i=>(g lv i).mono hB⟩
def WalkAt (w:World) (B gk:Nat) (a:List Nat):Prop:=
 ∃c b,Bk w gk 140 #[.pointer (some ⟨c,0,none⟩),.pointer (some ⟨b,0,none⟩)]/\WaveAt w B c a/\Bk w b 197 (tcells a)
def WalkAt.b {w w' B gk b} (e:WalkAt w B gk b) (a:Vis w w'):WalkAt w' B gk b:=by
 obtain ⟨d,c,f,g,i⟩:=e;exact ⟨d,c,a.d f dC dC,g.b a,a.d i dC dC⟩
def WalkAt.mono {w B B' gk a} (d:WalkAt w B gk a) (hB:B'<=B):WalkAt w B' gk a:=by
 obtain ⟨c,b,e,f,g⟩:=d;exact ⟨c,b,e,f.mono hB,g⟩
def yD {B b a w} (f:WaveAt w B b a):
 Calls prog 107 #[b] w λe i=>e=.returned (.int .i64 a.length)/\w=i:=by
 obtain ⟨_,d,g,c,_⟩:=f;have j:w.cell? ⟨b,9,none⟩=some (.int .i64 a.length):=by rw [c.cell];have:=cK d (a.length:Int) g;simp [this]
 clear c;go_enter func107,ntmps107;go_wp2;go_ret;exact ⟨rfl,rfl⟩
def mH {B gk L w} (d:WalkAt w B gk L):
 Calls prog 50 #[gk] w λa c=>a=.returned (.int .i64 L.length)/\w=c:=by
 obtain ⟨j,i,b,e,f⟩:=d;have g:=b.cell 0;clear b f;go_enter func50,ntmps50;go_wp2_with fail;refine (yD e).mono ?_;rintro a c ⟨rfl,rfl⟩;go_wp2_with fail;go_ret;exact ⟨rfl,rfl⟩
def jQ {B gk:Nat} {L} {s:Nat} {w} (g:WalkAt w B gk L) (m:s < 257) (l:L.length<=1000):
 Calls prog 115 #[gk,(s:Int)] w λb f=>b=.returned (.int .i64 (L.countP (λa=>decide (a < s)):Nat))/\Below w.heap.size w f:=by
 obtain ⟨p,o,c,i,j⟩:=g;have n:=c.cell 1;clear c i;go_enter func115,ntmps115;go_wp2_with fail;refine (lR j m l).mono ?_;rintro b f ⟨rfl,k⟩;obtain ⟨e,d⟩:∃e,L.countP (λa=>decide (a < s))=e:=⟨_,rfl⟩;rw [d];go_wp2_with fail;go_ret;exact ⟨by rw [d];rfl,k⟩
def cR (a:List Nat) (b c:Nat):Nat:=a.countP (λd=>decide (d < b))+(a.take c).count b
def pB (a:Nat×Nat):List Value:= [.int .i64 a.1,.int .i64 a.2]
def bU (C:List (Nat×Nat)):List Value:=C.flatMap pB
def aF (C:List (Nat×Nat)) (a:Nat):Nat:=(C.getD a (0,0)).1
def aS (C:List (Nat×Nat)) (a:Nat):Nat:=(C.getD a (0,0)).2
def dO (C):(bU C).length=C.length*2:=by
 induction C with
 | nil=>rfl
 | cons b a c=>
  have:bU (b::a)=pB b++bU a:=rfl;rw [this,zAi,c];simp [pB];omega
def cL (C a) (c:a < C.length):(bU C)[a*2]?=some (.int .i64 (aF C a:Nat))/\(bU C)[a*2+1]?=some (.int .i64 (aS C a:Nat)):=by
 induction C generalizing a with
 | nil=>cases c
 | cons b d f=>
  have e:bU (b::d)=pB b++bU d:=rfl;rcases a with _ | a;exact ⟨rfl,rfl⟩;have:=f a (by simpa using c);rw [e,zAo (by simp [pB];omega),zAo (by simp [pB];omega)];rw [show (a+1)*2 -(pB b).length=a*2 by simp [pB];omega,show (a+1)*2+1 -(pB b).length=a*2+1 by simp [pB];omega];exact this
structure PRd (W:World) (gb gp:Nat) (A:Option Addr) (n c:Nat) (C:List (Nat×Nat)):Prop where
 box:W.cell? gb=some (.pointer (some gp))
 sl:W.cell? ⟨gp,1,none⟩=some (.slice A n c)
 rd:Rd W W.heap.size 2 A n (bU C)
def PRd.below {a f c gp i g e C} (d:PRd a c gp e i g C) (j:c < a.heap.size) (k:gp < a.heap.size) (b:Below a.heap.size a f):PRd f c gp e i g C:=
 ⟨(b.cell j).trans d.box,(b.cell k).trans d.sl,(d.rd.below b).mono b.size⟩
def PRd.drewN {c e gp f d b C} (a:PRd c e gp b f d C) (g):PRd (c.drewN g) e gp b f d C:=⟨a.box,a.sl,a.rd⟩
def PRd.at {d l gp e j f C} (g:PRd d l gp f e j C) {a} (o:a < C.length):
 a < e/\∃b c,f=some ⟨b,c,none⟩/\d.cell? ⟨b,c+a*2,none⟩=some (.int .i64 (aF C a:Nat))/\d.cell? ⟨b,c+a*2+1,none⟩=some (.int .i64 (aS C a:Nat)):=by
 have p:=g.rd.1;rw [dO] at p;have q:a < e:=oM;obtain ⟨b,c,k,_,i⟩:=g.rd.2 oM;obtain ⟨m,n⟩:=cL C a o;exact ⟨q,b,c,k,i _ _ m,by rw [zDp];exact i _ _ n⟩
def aFC {f gp:Nat} {i} {m j:Nat} {C} (a row:Nat) {b} (c:PRd b f gp i m j C) (l:a < C.length):
 Calls prog 139 #[(a:Int),(row:Int),f] b λe g=>e=.returned (.int .i64 (Lib.compareInt (aF C a:Nat) row))/\b=g:=by
 obtain ⟨s,n,t,rfl,q,k⟩:=c.at l;have o:=c.box;have p:=c.sl;have d:=AnyG.cmp_Compare_int shCmp ((aF C a:Nat):Int) (row:Int) b;change Calls prog 140 _ _ _ at d;generalize Lib.compareInt (aF C a:Nat) row=r at d⊢;clear c k;go_enter func139,ntmps139;go_wp2_with fail;refine d.mono ?_;rintro e g ⟨rfl,rfl⟩;go_wp2_with fail;go_ret;exact ⟨rfl,rfl⟩
def aDU {f g gp:Nat} {k} {p l:Nat} {C} (d:Nat) {e:Nat} {a} (c:PRd a f gp k p l C) (y:a.cell? g=some (.int .i64 e)) (o:d < C.length):
 Calls prog 142 #[(d:Int),f,g] a λb r=>b=.returned (.bool (decide (aS C d=e)))/\∃q,r=a.drewN q:=by
 obtain ⟨x,s,z,rfl,m,n⟩:=c.at o;have t:=c.box;have u:=c.sl;obtain ⟨j,i⟩:=eqx (aS C d);rw [i] at n⊢;clear c m i;by_cases b:j=e
 .subst b;go_enter func142,ntmps142;go_wp2;go_quiet (fail);go_wp2;go_ret;exact ⟨by simp,_,rfl⟩
 .have v:((j:Int)==e)=false:=zt;go_enter func142,ntmps142;go_wp2;go_quiet (fail);go_wp2;go_ret;exact ⟨by simp [b],_,rfl⟩
section
open Go.Sort (Holds)
structure PermAt (w:World) (B gp ga:Nat) (vl vo vt vf:Value) (R P:Nat) (ks:List Nat) (C:List (Nat×Nat)) (tk:List Bool) (fr:List Nat):Prop where
 a:Bk w gp 128 #[ga,vl,vo,(R:Int),(P:Int)]
 u:w.ownsRow B 121 2 vl C.length (bU C)
 t:w.ownsRow B 3 1 vo ks.length (ks.map sv)
 V:Bk w ga 173 #[vt,vf,(268435456:Int)]
 F:w.ownsRow B 4 1 vt tk.length (tk.map Value.bool)
 M:w.ownsRow B 3 1 vf fr.length (fr.map sv)
 apart:vo.ownBlock=none∨vo.ownBlock≠vf.ownBlock
 lt:∀k∈ks,k < C.length
 lo:B<=gp/\B<=ga
def aG6 {d:List Nat} {b:Nat->Nat} (j:d.Pairwise (λi n=>b i < b n)) (g:Nat):∀(a e:Nat),d[a]?=some e->(b e < g↔a < d.countP λk=>decide (b k < g)):=by
 induction d with
 | nil=>intro a e j;cases j
 | cons r d q=>
  obtain ⟨m,o⟩:=zEf.1 j;intro a e c;rw [zBn];by_cases f:b r < g
  .rcases a with _ | a
   .simp at c;subst c;simp [f]
   have:=q o a e (by simpa using c);simp only [f,decide_true,if_true];omega
  .have l:(d.countP λk=>decide (b k < g))=0:=(by rw [zDU];intro i p;have:=m i p;simp;omega);rcases a with _ | a
   .simp at c;subst c;simp [f,l]
   have s:=m e (zAd (by simpa using c));simp only [l,f,decide_false];simp;omega
def wZ {a:List Nat} {f:Nat->Nat} (i:a.Pairwise (λo p=>f o < f p)) (k:Nat):(∃g,a[a.countP λb=>decide (f b < k)]?=some g/\f g=k)↔∃b∈a,f b=k:=by
 constructor;rintro ⟨g,j,e⟩;exact ⟨g,zAd j,e⟩
 .rintro ⟨b,s,rfl⟩;obtain ⟨c,m,rfl⟩:=zDR s;have l:=zAa m;have j:=aG6 i (f a[c]) c _ l;have v:¬c < a.countP λb=>decide (f b < f a[c]):=λd=>by have:=j.2 d;omega
  rcases zBe (a.countP λb=>decide (f b < f a[c])) c with e | e
  .have n:(a.countP λb=>decide (f b < f a[c])) < a.length:=oM;have q:=zAa n;have r:=aG6 i (f a[c]) _ _ q;have t:¬f a[a.countP λb=>decide (f b < f a[c])] < f a[c]:=λd=>by have:=r.1 d;omega
   have u:=zAr.1 i _ _ n m e;omega
  have d:(a.countP λb=>decide (f b < f a[c]))=c:=oM;rw [d];exact ⟨_,l,rfl⟩
def gN (a:Nat) (ks:List Nat):Array (Fin (a+1)):=(ks.map λb=>(⟨b %(a+1),zFG _ (zGw a)⟩:Fin (a+1))).toArray
def pS {d:Nat} {ks} (g:∀a∈ks,a < d+1) {c a:Nat} (b:ks[c]?=some a):((gN d ks)[c]!).val=a:=by
 have e:c < ks.length:=(zAc.1 b).1;have i:=g a (zAd b);have f:ks[c]=a:=by rw [zAa e] at b;injection b
 rw [aES _ _ (by simpa [gN] using e)];simp [gN,f,zBu i]
def aGF {b ks} (d:∀a∈ks,a < b+1) (c:Nat->Bool):(gN b ks).toList.countP (λf=>c f.val)=ks.countP c:=by
 unfold gN;rw [zEr];refine zDy λa e=>?_;simp [zBu (d a e)]
def tC {w c f ks b} (g:Bk w f 3 b) (i:∀k∈ks,k < c+1) (ht:b.toList.take ks.length=ks.map sv):Holds (fS c) w f 0 (gN c ks):=by
 intro a j;have d:a < ks.length:=by simpa [gN] using j
 rw [zBi];refine ⟨?_,g.frozen a⟩;have e:(b.toList.take ks.length)[a]?=(ks.map sv)[a]?:=by rw [ht]
 rw [zBs,zBx d,zAf,zAa d,zDz] at e;rw [g.cell,e];have:=pS i (zAa d);simp [fS,this,sv]
def aKi {w e a c} {b:Array (Fin (a+1))} (i:Holds (fS a) w c 0 b) (g:SW (fS a) w c 0 b e):Below w.heap.size w e:=by
 obtain ⟨d,k,rfl⟩:=g;unfold sortWorld;have f:Go.Sort.putRow (fS a) (Go.Sort.ahead w d) c 0 b=Go.Sort.ahead w d:=Go.Sort.putRow_self (fS a) _ c 0 b i;rw [f];exact ⟨rfl,rfl,rfl,by show w.heap.size<=(w.heap++k).size;simp,λl j=>Go.Sort.heap_grow_old _ _ j⟩
def zL (a b):Lib.compareInt a b < 0↔a < b:=by
 unfold Lib.compareInt;split
 .simp [*]
 .split <;> simp [*]
def aLT (a b):Lib.compareInt a b=0↔a=b:=by
 unfold Lib.compareInt;split;simp;omega;split;simp;omega;simp;omega
section
variable {w : World} {B gp ga : Nat} {vl vo vt vf : Value} {R P : Nat} {ks : List Nat} {C : List (Nat × Nat)} {tk : List Bool} {fr : List Nat}
def PermAt.cp (c:PermAt w B gp ga vl vo vt vf R P ks C tk fr) {e w'} (j:w'.cell? e=some (.pointer (some gp))) (g:Below w.heap.size w w'):∃a i b,vl=.slice a i b/\PRd w' e gp a i b C:=by
 obtain ⟨a,b,d,_⟩:=aZ c.u;refine ⟨a,C.length,b,d,j,?_,?_⟩;have:=(c.a.below g c.a.lt).cell 1;rw [d] at this;exact this;have f:=aP c.u g;rw [d] at f;exact Rd.s f
end
def aOO {ks C} {c row:Nat} (m:C.length=c+1) (o:∀a∈ks,a < C.length) (p:ks.Pairwise (λk l=>aF C k < aF C l)):
 ((gN c ks).toList.countP (λb=>decide (Lib.compareInt (aF C b.val:Nat) row < 0)))=ks.countP (λa=>decide (aF C a < row))/\
 (decide (((gN c ks).toList.countP (λb=>decide (Lib.compareInt (aF C b.val:Nat) row < 0))) < (gN c ks).size)&&decide (Lib.compareInt (aF C ((gN c ks)[((gN c ks).toList.countP (λb=>decide (Lib.compareInt (aF C b.val:Nat) row < 0)))]!).val:Nat) row=0))=decide (∃a∈ks,aF C a=row):=by
 have g:∀a∈ks,a < c+1:=λa n=>by rw [<-m];exact o a n
 have i:(gN c ks).toList.countP (λb=>decide (Lib.compareInt (aF C b.val:Nat) row < 0))=ks.countP (λa=>decide (aF C a < row)):=by rw [<-aGF g (λa=>decide (aF C a < row))];congr 1;funext b;rw [decide_eq_decide,zL];omega
 refine ⟨i,?_⟩;rw [i,zEd];simp only [zBd,zCa,aLT];rw [<-wZ (f:=aF C) p row];constructor;rintro ⟨d,j⟩;have e:(ks.countP λa=>decide (aF C a < row)) < ks.length:=(by simpa [gN] using d);refine ⟨_,zAa e,?_⟩;rw [pS g (zAa e)] at j;omega;rintro ⟨b,d,j⟩;have e:=(zAc.1 d).1;refine ⟨by simpa [gN] using e,?_⟩;rw [pS g d];omega
def lS {B gp ga:Nat} {vl vo vt vf} {R P:Nat} {ks C tk fr} (row:Nat) {w} (d:PermAt w B gp ga vl vo vt vf R P ks C tk fr) (F:ks.Pairwise (λk e=>aF C k < aF C e)) (O:ks.length<=1099511627776):
 Calls prog 85 #[gp,(row:Int)] w λa l=>a=.returned (.tuple #[.int .i64 (ks.countP (λb=>decide (aF C b < row)):Nat),.bool (decide (∃b∈ks,aF C b=row))])/\Below w.heap.size w l:=by
 have ai:=d.a.lt;have n:Below w.heap.size w (w.alloc (.cells #[gp] 87)):=bR.alloc nL _;have X:w.cell? ⟨gp,2,none⟩=some vo:=(d.a.cell 2).trans rfl;have N:∀j q f,vo=.slice j q f->Calls prog 138 #[.slice j q f,(row:Int),.func (.func 139) #[] #[w.heap.size]] (w.alloc (.cells #[gp] 87)) λa l=>a=.returned (.tuple #[.int .i64 (ks.countP (λb=>decide (aF C b < row)):Nat),.bool (decide (∃b∈ks,aF C b=row))])/\Below w.heap.size w l:=by
  intro j q f I;rcases zBa ks.length with r | r;have a6:ks= []:=zBk r;obtain ⟨W,Y,g,_⟩:=aZ d.t;rw [I] at g;injection g with _ g _;rw [r] at g;subst g;subst a6;refine (Any.slices_BinarySearchFunc_none shBin j f (.int .i64 row) (.func (.func 139) #[] #[w.heap.size]) _).mono ?_;rintro a l ⟨rfl,rfl⟩;exact ⟨by simp,n⟩
  .rcases d.t.2 with ⟨_,a⟩|⟨m,ac,Z,a,ag,a4,ak,aj,al,ht⟩;omega
   .rw [I] at a;injection a with e1 e2 e3;subst e1 e2 e3;rw [zBl] at ht;obtain ⟨k0,a5⟩:∃b,b∈ks:=(by obtain ⟨i,ab⟩:=zFe r;exact ⟨i,ab⟩);obtain ⟨c,y⟩:∃c,C.length=c+1:=⟨C.length - 1,by have:=d.lt k0 a5;omega⟩;have E:∀b∈ks,b < c+1:=λb O=>by rw [<-y];exact d.lt b O
    have t:Bk w m 3 Z:=a4;have s:=t.below n t.lt;have L:=tC s E ht;have a2:(w.alloc (.cells #[gp] 87)).cell? w.heap.size=some (.pointer (some gp)):=(kd w 87 #[gp]).cell 0;have a3:CmpLaysT prog 139 #[w.heap.size] (fS c) (.int .i64 row) (λi=>Lib.compareInt (aF C i.val:Nat) row) m 0 (gN c ks).size (w.alloc (.cells #[gp] 87)):=(by intro H G u ah i;have D:=kV (enc:=fS c) s.lt 0 H u G;obtain ⟨j,q,f,a,T⟩:=d.cp a2 n;have a9:PRd (sortWorld (fS c) (w.alloc (.cells #[gp] 87)) m 0 H u G) w.heap.size gp j q f C:=(by refine ⟨?_,?_,?_⟩;exact (D.cell (p:=w.heap.size) zs (λa=>by have:=t.lt;have ae:w.heap.size=m:=a;omega)).trans T.box;exact (D.cell (p:=⟨gp,1,none⟩) zt (Bk.ne d.a t dC)).trans T.sl;have a7:=aP d.u n;have Q:=aC (w':=sortWorld (fS c) (w.alloc (.cells #[gp] 87)) m 0 H u G) a7 λe ad _ o=>D.d o (Bk.ne o s dC);obtain ⟨W,Y,g,_⟩:=aZ d.u;rw [a] at g Q;injection g with e91 e92 e93;subst e92;exact Rd.s Q);exact (aFC i.val row a9 (by rw [y];exact i.isLt)).mono λ_ _ ⟨a0,a1⟩=>⟨a0,0,#[],by rw [<-a1,Go.Sort.grow_empty];rfl⟩);have a8:∀k e,k<=e->e < (gN c ks).size->Lib.compareInt (aF C ((gN c ks)[e]!).val:Nat) row < 0->Lib.compareInt (aF C ((gN c ks)[k]!).val:Nat) row < 0:=(by intro k e v x S;have o:e < ks.length:=(by simpa [gN] using x);rw [pS E (zAa o),zL] at S;rw [pS E (zAa (show k < ks.length by omega)),zL];rcases zFL v with rfl | v;exact S;have:=zAr.1 F k e oM o v;omega);have U:(gN c ks).size=ks.length:=(by simp [gN]);have hB:=Any.slices_BinarySearchFunc shBin (fS c) (oC c) (.int .i64 row) (λi=>Lib.compareInt (aF C i.val:Nat) row) 139 #[w.heap.size] m 0 f (gN c ks) (w.alloc (.cells #[gp] 87)) (enters_of func139 kR rfl) a3 L s.lt (by rw [U];omega) a8;obtain ⟨J,K⟩:=aOO (row:=row) y d.lt F;rw [J] at K;rw [J,K] at hB;rw [U] at hB;refine hB.mono ?_;rintro a l ⟨rfl,aa⟩;exact ⟨rfl,n.trans ((aKi L aa).mono zs)⟩
 obtain ⟨j,f,a,_⟩:=aZ d.t;have M:=N _ _ _ a;rw [a] at X;obtain ⟨V,A⟩:∃V,ks.countP (λb=>decide (aF C b < row))=V:=⟨_,rfl⟩;obtain ⟨af,z⟩:∃e,decide (∃b∈ks,aF C b=row)=e:=⟨_,rfl⟩;rw [A,z] at M;rw [A,z];clear N d F A z n a;go_enter func85,ntmps85;go_wp2_with fail;refine M.mono ?_;rintro a l ⟨rfl,x⟩;go_wp2_with fail;go_ret2;exact ⟨rfl,x⟩
def kH (b:Nat->Bool):List Nat->Nat->Int
 | [],_=>-1
 | k::l,a=>if b k then (a:Int) else kH b l (a+1)
def mD {p:Nat->Bool} {l} (b:∀a∈l,p a=false) (c):kH p l c=-1:=by
 induction l generalizing c with
 | nil=>rfl
 | cons a l e=>
  unfold kH;rw [zBw (by rw [b a zs];simp)];exact e (λa d=>b a (by simp [d])) _
def xZ {p:Nat->Bool} {l} (b:∃a∈l,p a=true) (d):∃(e a:Nat),kH p l d=((d+e:Nat):Int)/\l[e]?=some a/\p a=true:=by
 induction l generalizing d with
 | nil=>obtain ⟨a,f,_⟩:=b;cases f
 | cons i l o=>
  unfold kH;by_cases c:p i=true;rw [zBx c];exact ⟨0,i,rfl,rfl,c⟩;rw [zBw c];obtain ⟨a,f,g⟩:=b;have n:a∈l:=(by rcases zDf.1 f with rfl | b;exact absurd g c;exact b);obtain ⟨e,q,j,k,m⟩:=o ⟨a,n,g⟩ (d+1);exact ⟨e+1,q,by rw [j];congr 1;omega,by simpa using k,m⟩
def aI6 {b ks} (d:∀a∈ks,a < b+1) (e:Nat->Bool) (f:Fin (b+1)) (c):Lib.idxByFrom (λ(_ j:Fin (b+1))=>e j.val) f ((ks.map λa=>(⟨a %(b+1),zFG _ (zGw b)⟩:Fin (b+1)))) c=kH e ks c:=by
 induction ks generalizing c with
 | nil=>rfl
 | cons a k i=>
  rw [zEJ];unfold Lib.idxByFrom kH;simp only [zBu (d a zs)];rw [i (λa g=>d a (by simp [g]))]
def kE {B gp ga:Nat} {vl vo vt vf} {R P:Nat} {ks C tk fr} (e:Nat) {w} (f:PermAt w B gp ga vl vo vt vf R P ks C tk fr) (F:ks.length<=1099511627776):
 Calls prog 86 #[gp,(e:Int)] w λb k=>b=.returned (.int .i64 (kH (λa=>decide (aS C a=e)) ks 0))/\Below w.heap.size w k:=by
 have a3:=f.a.lt;have J:w.cell? ⟨gp,2,none⟩=some vo:=(f.a.cell 2).trans rfl;obtain ⟨g,o⟩:∃g,g=(w.alloc (.cells #[gp] 87)).alloc (.cells #[(e:Int)] 3):=⟨_,rfl⟩;have d:Below w.heap.size w g:=o ▸(bR.alloc nL _).alloc zs _;have r:Bk g w.heap.size 87 #[gp]:=o ▸(kd _ _ _).alloc _;have s:Bk g (w.heap.size+1) 3 #[(e:Int)]:=by have:=kd (w.alloc (.cells #[gp] 87)) 3 #[(e:Int)];rw [<-o] at this;simpa using this
 have A:∀l p j,vo=.slice l p j->Calls prog 141 #[.slice l p j,.func (.func 142) #[] #[w.heap.size,.pointer (some ⟨w.heap.size+1,0,none⟩)]] g λb k=>b=.returned (.int .i64 (kH (λa=>decide (aS C a=e)) ks 0))/\Below w.heap.size w k:=by
  intro l p j v;rcases zBa ks.length with n | n;have W:ks= []:=zBk n;obtain ⟨Z,a0,m,_⟩:=aZ f.t;rw [v] at m;injection m with _ m _;rw [n] at m;subst m;subst W;refine (AnyE.slices_IndexFunc_empty shIdx l j (.func (.func 142) #[] #[w.heap.size,.pointer (some ⟨w.heap.size+1,0,none⟩)]) _).mono ?_;rintro b k ⟨rfl,rfl⟩;exact ⟨rfl,d⟩
  .rcases f.t.2 with ⟨_,b⟩|⟨x,a1,K,b,a2,S,a5,a4,a6,ht⟩;omega
   .rw [v] at b;injection b with e1 e2 e3;subst e1 e2 e3;rw [zBl] at ht;obtain ⟨k0,V⟩:∃a,a∈ks:=(by obtain ⟨i,X⟩:=zFe n;exact ⟨i,X⟩);obtain ⟨c,D⟩:∃c,C.length=c+1:=⟨C.length - 1,by have:=f.lt k0 V;omega⟩;have G:∀a∈ks,a < c+1:=λa F=>by rw [<-D];exact f.lt a F
    have E:Bk w x 3 K:=S;have T:=E.below d E.lt;have M:=tC T G ht;have u:PredAt prog 142 #[w.heap.size,.pointer (some ⟨w.heap.size+1,0,none⟩)] (fS c) (λi=>decide (aS C i.val=e)) g:=(by intro I i q;have O:=r.below q r.lt;have Q:=s.below q s.lt;obtain ⟨l,p,j,b,u⟩:=f.cp (w':=I) (O.cell 0) (d.trans (q.mono d.size));exact aDU i.val u (Q.cell 0) (by rw [D];exact i.isLt));have a7:ks.length=(ks.map λa=>(⟨a %(c+1),zFG _ (zGw c)⟩:Fin (c+1))).length:=zs;have y:=AnyE.slices_IndexFunc shIdx (fS c) (λi=>decide (aS C i.val=e)) 142 #[w.heap.size,.pointer (some ⟨w.heap.size+1,0,none⟩)] (enters_of func142 kR rfl) x 0 ks.length j (ks.map λa=>(⟨a %(c+1),zFG _ (zGw c)⟩:Fin (c+1))) g u zs oM (λY U=>by
     have L:=(M Y (by simpa [gN] using U)).1;simpa [gN] using L)
    rw [zAg zs,Lib.idxBy,aI6 G (λa=>decide (aS C a=e))] at y;refine y.mono ?_;rintro b k ⟨rfl,a8,rfl⟩;exact ⟨rfl,d.os,d.tape,d.output,d.size,d.block⟩
 obtain ⟨l,j,b,_⟩:=aZ f.t;have z:=A _ _ _ b;rw [b] at J;obtain ⟨H,t⟩:∃H,kH (λa=>decide (aS C a=e)) ks 0=H:=⟨_,rfl⟩;rw [t] at z;rw [t];subst o;clear A f t d b r s;go_enter func86,ntmps86;go_wp2_with fail;refine z.mono ?_;rintro b k ⟨rfl,N⟩;go_wp2_with fail;go_ret;exact ⟨rfl,N⟩
end
def wK:(prog.info? 121).map (λa=>(a.zero,a.size,a.bytes))=some (some (.agg #[o0,o0]),2,16):=by kernel_rfl
def PF (gp ga:Nat) (vl vo vt:Value) (a:Nat):Prop:=a=gp∨a=ga∨vl.ownBlock=some a∨vo.ownBlock=some a∨vt.ownBlock=some a
def lZ (C a):bU (C++ [a])=bU C++pB a:=by simp [bU]
def PermAt.below {w c B gp ga vl vo vt vf R P ks C tk fr} (a:PermAt w B gp ga vl vo vt vf R P ks C tk fr) (b:Below w.heap.size w c):PermAt c B gp ga vl vo vt vf R P ks C tk fr:=
 ⟨a.a.below b a.a.lt,aP a.u b,aP a.t b,a.V.below b a.V.lt,aP a.F b,aP a.M b,a.apart,a.lt,a.lo⟩
def iJ {d w j B c g f i k} (m:w.ownsRow B c g i f k) (o:Keep d w j) (n:∀a b,d a->Bk w a c b->False):j.ownsRow B c g i f k:=
 aC m λa b _ e=>o.d e (λl=>n a b l e)
def aKV {w:World} {B g cap:Nat} {C:List (Nat×Nat)} {y:Nat×Nat} (l:w.ownsRow B 121 2 (.slice (some g) (C.length+1) cap) (C.length+1) (bU (C++ [y]))) (a:Nat×Nat):
 ((w.setCell ⟨g,C.length*2,none⟩ (.int .i64 a.1)).setCell ⟨g,C.length*2+1,none⟩ (.int .i64 a.2)).ownsRow B 121 2 (.slice (some g) (C.length+1) cap) (C.length+1) (bU (C++ [a])):=by
 rcases l.2 with ⟨c,_⟩|⟨x,v,k,c,m,n,o,p,q,e⟩
 .cases c
 .injection c with h8 h9 h10;injection h8 with h8;injection h8 with h8 _;subst h8 h10;have r:Bk w g 121 k:=n;have s:=(r.set (C.length*2) (.int .i64 a.1)).set (C.length*2+1) (.int .i64 a.2);refine ⟨by rw [dO];simp,.inr ⟨g,cap,_,rfl,m,s,o,p,by simpa using q,?_⟩⟩;rw [lZ] at e⊢;have f:=dO C;apply zDs;intro b;have d:=congrArg (λt=>t[b]?) e;simp only [zBs,zDz] at d;rw [zBs,zDz,zCd,zCd];by_cases u:b < C.length*2
  .rw [zBx oM] at d⊢;rw [zBw oM,zBw oM,d,zAn oM,zAn oM]
  .by_cases i:b=C.length*2;subst i;rw [zBx oM,zBw oM,zBx rfl,zBx oM,zAo oM,f,zDK];rfl
   .by_cases j:b=C.length*2+1;subst j;rw [zBx oM,zBx rfl,zBx zt,zAo oM,f,show C.length*2+1 - C.length*2=1 by omega];rfl
    .rw [zBw oM,zBg (by simp [pB];omega)]
def aFD {B gp ga vl vo vt R P ks C tk row u w} (q:PermAt w B gp ga vl vo vt (.slice none 0 0) R P ks C tk []) (bd:ks.Pairwise (λbu i=>aF C bu < aF C i)) (aB:∀j∈ks,aF C j < row) (bc:∀j∈ks,aS C j≠u) (cf:row < R) (ce:u < P) (ht:tk.length=C.length) (bI:C.length<=900000) (r:ks.length<=900000) (hB:B<=w.heap.size):
 Calls prog 45 #[gp,(row:Int),(u:Int)] w λz s=>z=.returned (.int .i64 0)/\Keep (PF gp ga vl vo vt) w s/\∃aK aL Y,PermAt s B gp ga aK aL Y (.slice none 0 0) R P (ks++ [C.length]) (C++ [(row,u)]) (tk++ [true]) []/\(aL.ownBlock=vo.ownBlock∨∃f,aL.ownBlock=some f/\w.heap.size<=f)/\(aK.ownBlock=vl.ownBlock∨∃f,aK.ownBlock=some f/\w.heap.size<=f)/\(Y.ownBlock=vt.ownBlock∨∃f,Y.ownBlock=some f/\w.heap.size<=f):=by
 obtain ⟨c1,bQ,bY,bZ,c0⟩:=info_parts wK;have b2:ks.countP (λj=>decide (aF C j < row))=ks.length:=zDJ.2 λj r=>by simpa using aB j r
 have b3:decide (∃j∈ks,aF C j=row)=false:=by rw [decide_eq_false_iff_not];rintro ⟨j,r,z⟩;have:=aB j r;omega
 have b8:kH (λj=>decide (aS C j=u)) ks 0=-1:=mD (λj r=>by simpa using bc j r) 0;have bw:w.cell? ⟨gp,3,none⟩=some (.int .i64 R):=(q.a.cell 3).trans rfl;have bx:w.cell? ⟨gp,4,none⟩=some (.int .i64 P):=(q.a.cell 4).trans rfl;have a1:=lS (B:=B) (gp:=gp) (ga:=ga) (vl:=vl) (vo:=vo) (vt:=vt) (vf:=(.slice none 0 0)) (R:=R) (P:=P) (ks:=ks) (C:=C) (tk:=tk) (fr:=[]) (w:=w) row q bd oM;rw [b2,b3] at a1;have ax:=λbt bJ=>kE (B:=B) (gp:=gp) (ga:=ga) (vl:=vl) (vo:=vo) (vt:=vt) (vf:=(.slice none 0 0)) (R:=R) (P:=P) (ks:=ks) (C:=C) (tk:=tk) (fr:=[]) (w:=bt) u bJ oM;simp only [b8] at ax;obtain ⟨t,a8⟩:=eqx ks.length;obtain ⟨b,D⟩:=eqx C.length;rw [a8] at a1;have ag:=q;have aU:=ht;have cd:b<=900000:=oM;have ch:t<=900000:=oM;clear b2 b3 b8 bd aB bc q ht bI r;go_enter func45,ntmps45;go_wp2_with fail;refine a1.mono ?_;clear a1;rintro z w1 ⟨rfl,a2⟩;have J:=ag.below a2;have ah:=J;clear J bw bx;go_wp2_with fail;refine (ax w1 ah).mono ?_;rintro z Q ⟨rfl,am⟩;have U:=ah.below am;have K:=a2.trans (am.mono a2.size);have bv:Q.cell? gp=some (.pointer (some ga)):=(U.a.cell 0).trans rfl;have m:=U;clear U am ah a2 ax;go_wp2_with fail;obtain ⟨aQ,aW,ae,_⟩:=aZ m.F;have ab:tk.length=b:=by rw [aU,D]
 have ak:=oP (A:=aQ) (c:=aW) (N:=b) B ga none 0 tk Q (by have:=m.V;rw [ae,ab] at this;exact this) (by have:=m.F;rw [ae,ab] at this;exact this) (zk hB K.size) oM;have bm:vt=.slice aQ b aW:=by rw [ae,ab]
 rw [<-bm] at ak;refine ak.mono ?_;clear ak ae bm ab;rintro z aM ⟨rfl,M,Y,ap,ba,bL⟩;have V:=M.d m.a (λa=>by
  rcases a with a | a;exact Bk.ne m.a m.V dC a
  .exact bC m.F m.a dC a.symm)
 have F:=iJ m.u M (λi l a d=>by
  rcases a with a | a;subst a;exact Bk.ne d m.V dC rfl
  .exact bC m.F d dC a.symm)
 have bi:=iJ m.t M (λi l a d=>by
  rcases a with a | a;subst a;exact Bk.ne d m.V dC rfl
  .exact bC m.F d dC a.symm)
 obtain ⟨bs,bA,bf,_⟩:=aZ F;have aE:vl=.slice bs b bA:=by rw [bf,D]
 have X:aM.cell? ⟨gp,1,none⟩=some vl:=(V.cell 1).trans rfl;have bE:=V.frozen 1;rw [aE] at X;have bO:=V.lt;rw [D] at F;have bH:B<=aM.heap.size:=by have:=M.size;have:=hB;have:=K.size;omega
 have bB:=(zEw aM (Obj.cells #[o0,o0] 121) ⟨gp,1,none⟩ bO).trans X;clear bf bv;go_wp2_with fail;refine wp_loop_rounds 2 ?_;rw [rounds_succ];go_wp2_with (at_builtin;refine bP _ rfl (.tmp 72) (.tmp 74) _ rfl B 121 c1 (.agg #[o0,o0]) 2 16 underlying73 bQ bY bZ c0 rfl dC vl b _ aE.symm F rfl rfl (by simp [Value.oneCell']) zx oM bH ?_;intro cj x aA aq ci b1;have a3:=V.grown aq (bC F V dC);have aY:x.cell? ⟨gp,1,none⟩=some vl:=(a3.cell 1).trans rfl;have bD:=a3.frozen 1;rw [aE] at aY;obtain ⟨br,o,rfl,bV⟩:=aR aA;obtain ⟨I,ai,W,aT⟩:=hqq4 a3 aA aq b1;clear bV aA aq b1 a3);obtain ⟨e,aX,rfl,cg,ao,bK⟩:∃e,∃Z:Array Value,br=some ⟨e,0,none⟩/\B<=e/\Bk x e 121 Z/\b*2+1 < Z.size:=by rcases ai.2 with ⟨J,U⟩|⟨f,bz,Z,J,U,bG,c7,c8,c9,ca⟩;omega;injection J with J _ _;exact ⟨f,Z,J,U,bG,by omega⟩
 have b7:gp≠e:=Bk.ne I ao dC;have a5:=I.set 1 (.slice (some ⟨e,0,none⟩) (b+1) o);have E:=ao.m (p:=⟨gp,1,none⟩) (λz=>b7 z.symm) (.slice (some ⟨e,0,none⟩) (b+1) o);have ay:Keep (PF gp ga vl vo vt) Q (x.setCell ⟨gp,1,none⟩ (.slice (some ⟨e,0,none⟩) (b+1) o)):=
  ((M.mono (G:=PF gp ga vl vo vt) (λi _ a=>by rcases a with a | a;exact .inr (.inl a);exact .inr (.inr (.inr (.inr a))))).grown W (λj r=>.inl (.inr (.inr (.inl r))))).setCell (.inl (.inl rfl)) _
 have bg:=aC (w':=x.setCell ⟨gp,1,none⟩ (.slice (some ⟨e,0,none⟩) (b+1) o)) ai λi l _ d=>d.m (p:=⟨gp,1,none⟩) (Bk.ne d I dC) _;have bj:=aC (w':=x) bi λi l _ d=>d.grown W (bC F d dC);have aH:=aC (w':=x.setCell ⟨gp,1,none⟩ (.slice (some ⟨e,0,none⟩) (b+1) o)) bj λi l _ d=>d.m (p:=⟨gp,1,none⟩) (Bk.ne d I dC) _;have av:=ap.grown W (bC F ap dC);have aw:=av.m (p:=⟨gp,1,none⟩) (Bk.ne av I dC) (.slice (some ⟨e,0,none⟩) (b+1) o);have bn:=aC (w':=x) ba λi l _ d=>d.grown W (bC F d dC);have bo:=aC (w':=x.setCell ⟨gp,1,none⟩ (.slice (some ⟨e,0,none⟩) (b+1) o)) bn λi l _ d=>d.m (p:=⟨gp,1,none⟩) (Bk.ne d I dC) _;have b4:(Value.slice (some ⟨e,0,none⟩) (b+1) o).ownBlock=vl.ownBlock∨∃f,(Value.slice (some ⟨e,0,none⟩) (b+1) o).ownBlock=some f/\Q.heap.size<=f:=by rcases aT with a | a;exact .inl a;exact .inr ⟨_,a,by have:=M.size;omega⟩
 clear M ap ba V F bi I ai W aT X bE bB bD aY bj av bn;generalize x.setCell ⟨gp,1,none⟩ (.slice (some ⟨e,0,none⟩) (b+1) o)=w6 at a5 E ay bg aH aw bo⊢;have X:w6.cell? ⟨gp,1,none⟩=some (.slice (some ⟨e,0,none⟩) (b+1) o):=(a5.cell 1).trans rfl;have aN:=E.cell (b*2);have aO:=E.cell (b*2+1);rw [zAq oM] at aN aO;have c2:=E.frozen (b*2);have c3:=E.frozen (b*2+1);generalize aX[b*2]' oM=u0 at aN;generalize aX[b*2+1]' oM=u1 at aO;have bT:decide (b+1<=b)=false:=zs
 have bU:decide ((b:Int)+1<=b)=false:=zt
 have a0:w6.cell? ⟨gp,2,none⟩=some vo:=(a5.cell 2).trans rfl;obtain ⟨aP,aV,bh,_⟩:=aZ aH;have ad:vo=.slice aP t aV:=by rw [bh,a8]
 rw [ad] at a0;clear bh ao bK;rw [rounds_succ];go_wp2_with fail
 have ac:=aKV (C:=C) (y:=(0,0)) (g:=e) (cap:=o) (w:=w6) (B:=B) (by
  rw [D,lZ];exact bg) (row,u)
 rw [D] at ac;have O:Keep (λi=>i=e) w6 ((w6.setCell ⟨e,b*2,none⟩ (.int .i64 row)).setCell ⟨e,b*2+1,none⟩ (.int .i64 u)):=((ke (λi=>i=e) w6).setCell (p:=⟨e,b*2,none⟩) (.inl rfl) _).setCell (p:=⟨e,b*2+1,none⟩) (.inl rfl) _;have aD:((w6.setCell ⟨e,b*2,none⟩ (.int .i64 row)).setCell ⟨e,b*2+1,none⟩ (.int .i64 u)).heap.size=w6.heap.size:=by simp [World.setCell]
 rw [<-aD];clear aN aO c2 c3 X a0 bT bU;generalize (w6.setCell ⟨e,b*2,none⟩ (.int .i64 row)).setCell ⟨e,b*2+1,none⟩ (.int .i64 u)=w7 at ac O aD⊢;have b6:=O.d a5 (λa=>b7 a);have b5:=O.d aw (λa=>by subst a;exact Bk.ne aw E dC rfl);have bl:=iJ aH O (λi l a d=>by subst a;exact Bk.ne d E dC rfl);have bp:=iJ bo O (λi l a d=>by subst a;exact Bk.ne d E dC rfl);have cb:B<=Q.heap.size:=zk hB K.size
 have cc:=ay.size;have aj:B<=(w7.alloc (.cells #[(b:Int)] 3)).heap.size:=zt
 have aJ:w7.heap.size < (w7.alloc (.cells #[(b:Int)] 3)).heap.size:=zs
 have aa:Rd (w7.alloc (.cells #[(b:Int)] 3)) (w7.alloc (.cells #[(b:Int)] 3)).heap.size 1 (some ⟨w7.heap.size,0,none⟩) 1 [sv b]:=(Rd.cm w7 3 1 #[(b:Int)] rfl).mono zs;have v:=bl.alloc (.cells #[(b:Int)] 3);have aG:=ac.alloc (.cells #[(b:Int)] 3);have aI:=bp.alloc (.cells #[(b:Int)] 3);have a6:=b6.alloc (.cells #[(b:Int)] 3);have a4:=b5.alloc (.cells #[(b:Int)] 3);have an:Below w7.heap.size w7 (w7.alloc (.cells #[(b:Int)] 3)):=bR.alloc nL _;obtain ⟨bF,au⟩:=eqx w7.heap.size;rw [au] at aa aJ;rw [au];generalize w7.alloc (.cells #[(b:Int)] 3)=w8 at aj aa v aG aI a6 a4 an aJ⊢;have az:Keep (PF gp ga vl vo vt) Q w8:=(ay.trans' (O.trans' (kF an) (λ_ _ a=>a)) (λi d a=>by
  rcases b4 with q |⟨f,q,c6⟩;exact .inr (.inr (.inl (by rw [<-q,a];rfl)))
  .exfalso;have:e=f:=(by simpa [Value.ownBlock] using q);omega))
 rw [a8,ad] at v;have b9:=sW (B:=B) (A:=aP) (n:=t) (c:=aV) (xs:=(ks.map sv)) (Av:=(some ⟨bF,0,none⟩)) (k:=b) (w:=w8) 1 v aa aj oM;refine b9.mono ?_;clear b9;rintro z H ⟨bq,rfl,bb,L,al⟩;rw [<-ad] at L al v;have a7:=a6.grown L (bC v a6 dC);have bN:=a4.grown L (bC v a4 dC);have bW:=aC (w':=H) aG λi l _ d=>d.grown L (bC v d dC);have bX:=aC (w':=H) aI λi l _ d=>d.grown L (bC v d dC);have bS:=az.grown L (λj r=>.inl (.inr (.inr (.inr (.inl r)))));have bM:bq.ownBlock=vo.ownBlock∨∃f,bq.ownBlock=some f/\Q.heap.size<=f:=by rcases al with a | a;exact .inl a;exact .inr ⟨_,a,az.size⟩
 have a0:H.cell? ⟨gp,2,none⟩=some vo:=(a7.cell 2).trans rfl;rw [ad] at a0;have c5:=a7.frozen 2;obtain ⟨S,T,be,_⟩:=aZ bb;have c4:=be;clear ac O aD b6 b5 bl bp aj aJ aa v aG aI a6 a4 an au az L al;subst be;go_wp2_with fail;go_ret;have a9:∀i af l,Bk H i af l->af≠128->Bk (H.setCell ⟨gp,2,none⟩ (.slice S (t+1) T)) i af l:=λi af l d ht=>d.m (p:=⟨gp,2,none⟩) (Bk.ne d a7 ht) _;refine ⟨rfl,(kF K).trans' (bS.setCell (.inl (.inl rfl)) _) (λ_ _ a=>a),.slice (some ⟨e,0,none⟩) (b+1) o,.slice S (t+1) T,Y,⟨a7.set 2 _,?_,?_,a9 _ _ _ bN dC,?_,?_,?_,?_,ag.lo⟩,?_,?_,?_⟩;have:=aC (w':=H.setCell ⟨gp,2,none⟩ (.slice S (t+1) T)) bW λi l _ d=>a9 _ _ _ d dC;simpa [D] using this;have:=aC (w':=H.setCell ⟨gp,2,none⟩ (.slice S (t+1) T)) bb λi l _ d=>a9 _ _ _ d dC;simpa [a8,D] using this;have:=aC (w':=H.setCell ⟨gp,2,none⟩ (.slice S (t+1) T)) bX λi l _ d=>a9 _ _ _ d dC;simpa [aU,D] using this;exact ki _ _ _ _;rcases (Value.slice S (t+1) T).ownBlock with _ | f;exact .inl rfl;exact .inr (by simp [Value.ownBlock]);intro j r;rcases zCp.1 r with q | q;have:=ag.lt j q;simp;omega;simp at q;simp;omega;rcases bM with a |⟨f,a,b0⟩;exact .inl a;exact .inr ⟨f,a,by have:=K.size;omega⟩;rcases b4 with a |⟨f,a,b0⟩;exact .inl a;exact .inr ⟨f,a,by have:=K.size;omega⟩;rcases bL with a |⟨f,a,b0⟩;exact .inl a;exact .inr ⟨f,a,by have:=K.size;omega⟩
def ix9 (a:Nat->Value) {lv:Nat} (b:lv < 9) (w):(Instr.index 179 (.agg #[a 0,a 1,a 2,a 3,a 4,a 5,a 6,a 7,a 8]) (.int .i64 lv)).run prog w=.ok (a lv) w:=by
 rcases lv with _ | _ | _ | _ | _ | _ | _ | _ | _ | lv
 all_goals first |(exfalso;omega)| kernel_rfl
def iZ {B gv:Nat} {L} (b:Nat) {s:Nat} {w} (av:WaveAt w B gv L) (t:s < 257) (ae:b<=L.length) (ax:∀l∈L,l < 257) (az:L.length<=1000):
 Calls prog 165 #[gv,(b:Int),(s:Int)] w λq w'=>q=.returned (.int .i64 ((L.take b).count s:Nat))/\VB B w w':=by
 have aa:=nG (L:=L) (k:=b) (s0:=s) ae ax t;have ab:=aCu L b s;obtain ⟨ac,c,W,i,aC⟩:=av;have o:=i.set 10 (.int .i64 0);rw [eS] at o;have N:=VB.N i ac 0;obtain ⟨p,aA⟩:=eqx L.length;rw [aA] at i o ae az;have bi:max (b:Int) 0=(b:Int):=oM;have bj:min (b:Int) (p:Int)=(b:Int):=oM;have au:=i.frozen 10;have aO:w.cell? ⟨gv,10,none⟩=some (.int .i64 W):=(i.cell 10).trans (cK c p W).2.2.2.2.2.2.2.2.2.2;have be:=i.lt;obtain ⟨aP,E⟩:=eqx (w.setCell ⟨gv,10,none⟩ (.int .i64 0));rw [E] at o N;obtain ⟨ai,aj,ak⟩:=hqq3 aa ab E;clear i aa ab E;go_enter func165,ntmps165;go_wp2_with fail;rw [ak.out];refine (fW (s:=s) _ t).mono ?_;rintro q w1 ⟨rfl,G⟩;have f:=o.below G o.lt;have O:=N.below G;obtain ⟨a0,a1,a2,a3,a4,a5,a6,a7,a8,a9,ap⟩:=cK c (p:Int) 0;have aU:w1.cell? gv=some (c 0):=(f.cell 0).trans a0;have aV:w1.cell? ⟨gv,1,none⟩=some (c 1):=(f.cell 1).trans a1;have aW:w1.cell? ⟨gv,2,none⟩=some (c 2):=(f.cell 2).trans a2;have aX:w1.cell? ⟨gv,3,none⟩=some (c 3):=(f.cell 3).trans a3;have aY:w1.cell? ⟨gv,4,none⟩=some (c 4):=(f.cell 4).trans a4;have aZ:w1.cell? ⟨gv,5,none⟩=some (c 5):=(f.cell 5).trans a5;have b0:w1.cell? ⟨gv,6,none⟩=some (c 6):=(f.cell 6).trans a6;have b1:w1.cell? ⟨gv,7,none⟩=some (c 7):=(f.cell 7).trans a7;have b2:w1.cell? ⟨gv,8,none⟩=some (c 8):=(f.cell 8).trans a8;have b3:w1.cell? ⟨gv,9,none⟩=some (.int .i64 p):=(f.cell 9).trans a9;clear a0 a1 a2 a3 a4 a5 a6 a7 a8 a9 ap G o N aO au;go_wp2_with fail;go_loopw [1,28] (λl U wr=>∃lv:Nat,lv<=9/\U=.int .i64 lv/\l=.int .i64 (gO L b s lv:Nat)/\VB B w1 wr) (λ_ U _=>9 -(intOf U).toNat)
 case atStart=>exact ⟨0,by omega,rfl,by rw [ai.out],VisK.refl _ _⟩
 case round=>
  obtain ⟨lv,bf,rfl,rfl,u⟩:=hrel;by_cases y:lv < 9
  .have ay:=ix9 (lv:=lv) c y;obtain ⟨C,z,M⟩:=aC lv y;obtain ⟨x,J⟩:=eqx (2 ^ lv);obtain ⟨a,r⟩:=eqx (bF s lv);have af:a < x:=(by rw [<-J,<-r];exact nY (s:=s) lv t oM);rw [J] at z M;obtain ⟨m,Z,ad,bg,bd⟩:=kj z oM;rw [ad] at ay z;obtain ⟨l,A⟩:=eqx (gO L b s lv);obtain ⟨X,T⟩:=eqx (gO L b s (lv+1));obtain ⟨D,I⟩:=eqx (iF s lv);have R:=nH (lv:=lv) L b s y;have ag:=aId L b s lv;rw [r,A,I,T] at R;rw [r,A] at ag;rw [A];have bh:(a:Int) < x:=oM;have an:=lhd R;have Y:=(M a af);obtain ⟨am,al,ao⟩:=hqq3 r I T;clear M ad J r A T I R;go_wp2_with fail;refine wp_region_any kR<|aQ (S:=(VB B)) (V:=(Vs [is gv,is (.slice (some m) x Z),is (s:Int),is (lv:Int),is (a:Int),is (.pointer (some ⟨m,a*3,none⟩)),is (.agg #[.pointer (some ⟨C a,0,none⟩),(lv:Int),(a:Int)]),is (l:Int),is (s:Int),is (lv:Int),is (.bool D),is (X:Int),is (X:Int)])) [32,33,34,35,36,37,38,39,40,41,42,43,1] _ rfl kR vR (λ_ _=>VisK.trans) (dI tA0) ?_ ?_
   .refine aL<|pH 0 (.pointer (some gv))<|pH 8 (.slice (some m) x Z)<|pH 2 (.int .i64 s)<|pH 7 (.int .i64 lv)<|sC (λ_ g _ _ _ _ d _ _ _ j=>?_) ?_
    .have b5:_=_:=d 2 34 kR rfl;have b6:_=_:=d 3 35 kR rfl;go_simp;refine (mI (s:=s) lv g t oM).mono ?_;rintro q ah ⟨rfl,H⟩;rw [am.out];exact j _ _ (kc H) rfl
    refine pW 1 33 4 36<|sC (λ_ g e _ _ _ d _ _ _ j=>?_) ?_
    .have b7:_=_:=d 5 37 kR rfl;replace e:(VB B) wr g:=bD e;have K:=(O.trans (u.trans e)).1.own z dC dC;obtain ⟨aH,aI,aJ⟩:=gF C lv x a af;have aR:g.cell? ⟨m,a*3,none⟩=_:=(kh K (a*3) oM).trans aH;have aS:g.cell? ⟨m,a*3+1,none⟩=_:=(kh K (a*3+1) oM).trans aI;have aT:g.cell? ⟨m,a*3+2,none⟩=_:=(kh K (a*3+2) oM).trans aJ;go_simp;exact j _ _ vR rfl
    refine pH 1 (.int .i64 l)<|pH 2 (.int .i64 s)<|pH 7 (.int .i64 lv)<|sC (λ_ g _ _ _ _ d _ _ _ j=>?_) ?_
    .have ba:_=_:=d 8 40 kR rfl;have bb:_=_:=d 9 41 kR rfl;go_simp;refine (oQ (s:=s) (lv:=lv) g t y).mono ?_;rintro q ah ⟨rfl,H⟩;rw [al.out];exact j _ _ (kc H) rfl
    refine sC (λ_ g e _ _ _ d _ _ _ j=>?_) ?_
    .have b4:_=_:=d 0 32 kR rfl;have b8:_=_:=d 6 38 kR rfl;have b9:_=_:=d 7 39 kR rfl;have bc:_=_:=d 10 42 kR rfl;replace e:(VB B) wr g:=bD e;go_simp;obtain ⟨aK,aG⟩:=(u.trans e).1.Q f;have aD:=Y.2.b (O.trans (u.trans e)).1;refine (tN (gv:=gv) (gt:=(C a)) (S:=c) (n:=p) (v:=aK) (bs:=(aM L lv a)) (k:=l) (w:=g) lv a D aG aD ag).mono ?_;rintro q ah ⟨rfl,aF⟩;rw [an.out];exact j _ _ (aF.mono λD i=>by rcases i with rfl | rfl;exact ac;exact Y.1) rfl
    refine pV 11 43 ?_;exact aB
   .intro ar aN e d;replace e:(VB B) wr aN:=bD e;have aq:ar (.tmp 1)=.int .i64 X:=d 12 1 rfl;simp only [zqq];rw [aq];clear d;have aE:=u.trans e;go_wp2_with fail;go_roundw
    case rel=>exact ⟨lv+1,by omega,by go_num,by rw [ao.out],aE⟩
    case measure=>exact zr
  .have aw:lv=9:=oM;subst aw;rw [aj.out];go_wp2_with fail;go_ret;exact ⟨rfl,O.trans u⟩
def aHa:(prog.info? 119).map (λa=>(a.zero,a.size,a.bytes))=some (some (.slice none 0 0),1,24):=by kernel_rfl
def aGi:(prog.info? 184).map (λa=>(a.zero,a.size,a.bytes))=some (some (.agg #[.pointer none,o0,o0]),3,24):=by kernel_rfl
def aKy (a:Nat) (i:a<=1000000) (w):(Instr.makeSlice 214 (.int .i64 a) (.int .i64 a)).run prog w=.ok (.slice (some w.heap.size) a a) (w.alloc (.cells (rowC (λ_=>.slice none 0 0) a) 119)):=by
 obtain ⟨g,c,d,e,f⟩:=info_parts aHa;have:=run_make (P:=prog) w 214 119 g (.slice none 0 0) underlying214 c d .i64 .i64 a a oM (zFF _) (by rw [f];omega) oM;rw [this,e,aGo];have b:madeCells #[()] a=Array.replicate a (.slice none 0 0):=by apply zFs;rw [toList_madeCells_one];simp
 simp only [Value.cells,zBr,zBl];rw [b]
def yY:(prog.info? 5).map (λa=>(a.zero,a.size,a.bytes))=some (some (.int .u8 0),1,1):=by kernel_rfl
def aMk {a:Nat} (w) (o:a<=1099511627776):
 Calls prog 76 #[(),(a:Int)] w λd w'=>∃c,d=.returned c/\w'.ownsRow w.heap.size 5 1 c 0 []/\Below w.heap.size w w':=by
 obtain ⟨l,e,j,p,k⟩:=info_parts yY;rcases zBa a with b | b
 .subst b;go_enter func76,ntmps76;go_wp2;go_ret;exact ⟨_,rfl,ki _ _ _ _,kg _ _⟩
 .have g:=Lib.run_append_nil_zeros (P:=prog) w 22 3 22 5 l (.int .u8 0) .i64 .i64 underlying22 underlying3 e j a b oM oM (by rw [k];omega);have n:=grownCap_ge w a 0 5;have f:=grownCap_le_maxLen w a 0 5 zx;generalize grownCap w a 0 5=cp at*
  have i:(Builtin.zeroCells (Value.int .u8 0).cells a++Builtin.zeroCells (Value.int .u8 0).cells (cp - a)).size=cp*1:=(by simp [Builtin.zeroCells,Value.cells];omega);have m:¬((a:Int) < 0):=oM;go_enter func76,ntmps76;go_wp2_with (at_builtin;refine Lib.wpList_append_run _ rfl (.tmp 20) (.tmp 21) _ _ rfl _ _ rfl rfl _ _ g ?_);go_ret;exact ⟨_,rfl,zFK _ _ _ nL f i,bR.drew.alloc nL _⟩
structure Sl where
 A:Option Addr
 n:Nat
 c:Nat
 l:List UInt8
def slV (a:Sl):Value:=.slice a.A a.n a.c
def iV (a:List Sl):List UInt8:=a.flatMap (·.l)
def aCr {b:List Sl} {a:Nat} {c:Sl} (d:b[a]?=some c):iV (b.take (a+1))=iV (b.take a)++c.l:=by
 rw [zAv,d];simp [iV]
def aDn (a b):(iV (a.take b)).length<=(iV a).length:=by
 have:iV a=iV (a.take b)++iV (a.drop b):=by unfold iV;rw [<-zDI,zAu]
 rw [this,zAi];omega
def oX {A0 m0} (O) {B ss T N} (s:iV ss=T) (G:T.length=N) {w} (x:Rd w B 1 A0 m0 (ss.map slV)) (y:∀b∈ss,Rd w B 1 b.A b.n (b.l.map bv)) (hB:B<=w.heap.size) (ac:m0<=1099511627776) (a0:N<=1099511627776):
 Calls prog 41 #[.slice A0 m0 O] w λE w'=>∃p q,E=.returned (.slice p N q)/\Made w' w.heap.size 5 1 p N q (T.map bv)/\Below w.heap.size w w':=by
 obtain ⟨a8,X,a5,a6,a7⟩:=info_parts yY;have i:ss.length=m0:=by simpa using x.1
 have H:∀a,(iV (ss.take a)).length<=1099511627776:=λa=>by have:=aDn ss a;rw [s] at this;omega
 have J:∀a b,ss[a]?=some b->b.l.length=b.n/\(iV (ss.take (a+1))).length=(iV (ss.take a)).length+b.n:=λa b d=>by
  have j:=(y b (zAd d)).1;have e:b.l.length=b.n:=by simpa using j
  rw [aCr d,zAi,e];exact ⟨rfl,rfl⟩
 have D:=(x.mono hB);have L:=(λb d=>(y b d).mono hB);clear x y;go_enter func41,ntmps41;go_wp2;go_loopw [3,11] (λC g wr=>∃a:Nat,a<=m0/\g=.int .i64 a/\C=.int .i64 ((iV (ss.take a)).length:Int)/\w=wr) (λ_ g _=>m0 -(intOf g).toNat)
 case atStart=>exact ⟨0,zAp _,rfl,by simp [iV],rfl⟩
 case round=>
  obtain ⟨a,Y,rfl,rfl,rfl⟩:=hrel;by_cases v:a < m0
  .obtain ⟨b,d⟩:∃b,ss[a]?=some b:=⟨ss[a]'(zj i),zAa (zj i)⟩;obtain ⟨M,a9,aa,rfl,U,f,t⟩:=D.get v;rw [zAf,d] at f;simp at f;subst f;unfold slV at t;obtain ⟨j,e⟩:=J a b d;have r:=H (a+1);generalize I:(iV (ss.take a)).length=z at*
   rw [e] at r;clear j d I;have ad:¬((z:Int)+b.n < 0):=oM;go_wp2;go_roundw
   case rel=>exact ⟨a+1,by omega,by go_num,by rw [e];go_num,trivial⟩
   case measure=>exact zr
  .have u:a=m0:=oM;have W:m0<=a:=oM;have o:ss.take a=ss:=zAg (zj i);rw [o,s,G];clear u o;go_wp2_with fail;refine (aMk _ a0).mono ?_;rintro E w1 ⟨ae,rfl,a1,S⟩;go_wp2_with fail;go_loopw [6,27] (λC g wr=>∃a:Nat,a<=m0/\g=.int .i64 a/\wr.ownsRow w.heap.size 5 1 C (iV (ss.take a)).length ((iV (ss.take a)).map bv)/\Below w.heap.size w wr) (λ_ g _=>m0 -(intOf g).toNat)
   case atStart=>exact ⟨0,zAp _,rfl,a1,S⟩
   case round=>
    obtain ⟨a,Y,rfl,m,k⟩:=hrel;have K:=k.size;by_cases v:a < m0
    .obtain ⟨b,d⟩:∃b,ss[a]?=some b:=⟨ss[a]'(zj i),zAa (zj i)⟩;obtain ⟨M,a9,aa,rfl,U,f,t⟩:=(D.below k).get v;rw [zAf,d] at f;simp at f;subst f;unfold slV at t;have a3:=((L b (zAd d)).below k);obtain ⟨j,e⟩:=J a b d;have r:=H (a+1);have a4:=(aCr d);generalize I:(iV (ss.take a)).length=z at*
     rw [e] at r;clear j d;go_wp2_with (at_builtin;refine bE _ rfl (.tmp 31) (.tmp 32) _ rfl w.heap.size 5 a8 (.int .u8 0) 1 1 underlying22 X a5 a6 a7 rfl dC _ z _ rfl m w.heap.size b.A b.n b.c _ rfl a3 (jI _) zx oM K ?_;intro af ag a2 V ab);have R:=aX k m V K;go_roundw
     case rel=>refine ⟨a+1,by omega,by go_num,?_,R⟩;rw [e,a4,zAz];exact a2
     case measure=>exact zr
    .have u:a=m0:=oM;have W:m0<=a:=oM;have o:ss.take a=ss:=zAg (zj i);rw [o,s,G] at m;obtain ⟨p,q,rfl,Z⟩:=aR m;clear u o m;go_wp2;go_ret;exact ⟨p,q,rfl,Z,k⟩
section
def VFB (B:Nat) (F:Nat->Prop) (w w':World):Prop:=VisF F w w'/\Keep (λa=>F a∨B<=a) w w'
def fD {B F w w'} (a:VFB B F w.drew w'):VFB B F w w':=⟨⟨a.1.os,a.1.tape,a.1.output,a.1.size,a.1.block⟩,⟨a.2.os,a.2.tape,a.2.output,a.2.size,a.2.block⟩⟩
section
variable {B : Nat} {F : Nat -> Prop} {w w1 w' : World}
def VFB.i (a:VB B w w'):VFB B F w w':=⟨VisF.C a.1,a.2.mono λ_ _ b=>.inr b⟩
def VFB.trans (a:VFB B F w w1) (b:VFB B F w1 w'):VFB B F w w':=⟨a.1.trans b.1,a.2.trans b.2⟩
def VFB.put (b:VFB B F w w1) {p} (c:F p.block∨w.heap.size<=p.block) (a):VFB B F w (w1.setCell p a):=⟨VisF.put b.1 c a,b.2.setCell (c.elim (λd=>.inl (.inl d)) .inr) a⟩
def VFB.wider {d} (b:VFB B F w w') (e:∀a,F a->d a):VFB B d w w':=⟨⟨b.1.os,b.1.tape,b.1.output,b.1.size,λa f g=>b.1.block a f (λc=>g (e a c))⟩,b.2.mono λa _ c=>c.elim (λc=>.inl (e a c)) .inr⟩
def VFB.y (c:VFB B F w w') (d:∀a,a < w.heap.size->¬F a):VB B w w':=⟨c.1.ak d,c.2.mono λa e b=>b.elim (λb=>absurd b (d a e)) id⟩
end
def aIe (B:Nat) (F:Nat->Prop) (a b:Nat) (w w':World):Prop:=(b=a->VFB B F w w')/\(b≠a->VB B w w')
def aB1 {B F a d w w'} (b:aIe B F a d w w'):VFB B F w w':=by
 by_cases c:d=a;exact b.1 c;exact VFB.i (b.2 c)
def aI {B F b c w w'} (a:VB B w w'):aIe B F b c w w':=⟨λ_=>VFB.i a,λ_=>a⟩
def lC {B F a w w'} (c:VFB B F w w'):aIe B F a a w w':=⟨λ_=>c,λb=>absurd rfl b⟩
def cC {P:Program} {ops:Array Oper} {Q:Exit->Act->World->Prop} {md:Region.Mode} (B c:Nat) (p:List Nat) (F:Nat->Prop) (d:Nat) (v:List Nat) {pre:World->Prop} {pJ:Value->World->Prop} (l:List (Value->World->Prop)) (k:Act) {g:World} (C:(ops.toList.take c).filterMap (·.dst)=p) (G:c<=ops.size) (E:kL md ops k.tmps.size=true) (M:((List.range ops.size).all λb=>decide (b < c)||(List.range c).all λa=>upB md ops ops.size b a)=true) (J:(v.all λa=>a==d||upB md ops ops.size d a)=true) (I:pre g) (H:∀w w',pre w->VFB B F g w->VB B w w'->pre w') (A:aJB (VB B) pJ) (K:∀O∈l,aJB (VFB B F) O) (L:∀e u,e < c->ops[e]?=some u->dN P ops Q md (VFB B F g) (aIe B F d) (λa w=>v.contains a=true->pre w) (VsJ d pJ l) k e u) (D:∀(q:Operand->Value) w f,VFB B F g w->(∀a o,a < c->((ops[a]?).bind (·.dst))=some o->VsJ d pJ l a (q (.tmp o)) w)->(∀a,a < c->∃m,VsJ d pJ l a m w)->wpAny P md ops Q (ops.size - c+f) (bT c ops.size) (dJ q p k) w):
 wpAny P md ops Q ops.size (Array.replicate ops.size false) k g:=by
 refine xM C G E M (VFB.i vR) (λ_ _=>I) (λe w w' _ y b=>y.trans (aB1 b)) (λa e w w' _ n N i z b s=>?_) (λa e m w w' _ n _ j _ b=>?_) L D;by_cases t:e=d;exfalso;subst t;have r:=zBf.1 J a (by simpa using s);simp only [N,zGn,zCr] at r;exact n r;exact H w w' (i s) z (b.2 t);unfold VsJ at j⊢;by_cases i:a=d;rw [zBx i] at j⊢;exact A m w w' j (b.2 λx=>n (i.trans x.symm));rw [zBw i] at j⊢;exact dI K a m w w' j (aB1 b)
end
def xO {a b} (c:a.Perm b):tcells a=tcells b:=by
 refine sZ _ _ (fI a) (λe d=>?_) ?_
 .rw [eH a d,c.count_eq]
 .rw [jE,c.length_eq]
def aF4 {b d a} (k:a < 257) (e:b.Perm (a::d)):((tcells b).setIfInBounds a (.int .i64 (((b.count a - 1:Nat)):Int))).setIfInBounds 257 (.int .i64 (b.length - 1:Nat))=tcells d:=by
 have f:=e.count_eq;have g:=e.length_eq;rw [zCg] at g;apply sZ
 .simp [fI]
 .intro i j;rw [zCe oM];by_cases c:a=i
  .subst c;rw [zDt (by rw [fI];omega),f a];simp
  .rw [zCe c,eH b j,f i,List.count_cons_of_ne c]
 rw [zDt (by simp [fI]),g];rfl
def aDH {a:Nat} {c z} {b:Nat} {w} (s:c.Perm (b::z)) (f:Bk w a 197 (tcells c)) (n:b < 257) (G:c.length<=1000):
 Calls prog 152 #[a,(b:Int),(-1:Int)] w λA w'=>A=.returned (.int .i64 0)/\Bk w' a 197 (tcells z)/\Keep (λg=>g=a) w w':=by
 have r:=f;clear f;have a0:¬((b:Int) < 0):=oM;have a1:((b:Int) < 257):=oM;obtain ⟨d,i⟩:=eqx (c.count b);obtain ⟨j,l⟩:=eqx c.length;have a5:d<=1000:=by rw [<-i];exact zAk zBv G
 rw [l] at G;have a4:1<=d:=by rw [<-i,s.count_eq];simp
 have a3:1<=j:=by rw [<-l,s.length_eq];simp
 have C:=aF4 n s;rw [i,l] at C;go_enter func152,ntmps152;go_wp2_with fail;refine (fW _ n).mono ?_;rintro A w1 ⟨rfl,E⟩;have v:=r.below E r.lt;have K:w1.cell? ⟨a,b,none⟩=some (.int .i64 d):=by rw [<-i];exact (v.cell b).trans (eH c n)
 have L:w1.cell? ⟨a,257,none⟩=some (.int .i64 j):=by rw [<-l];exact (v.cell 257).trans (jE c)
 have a6:¬((-1:Int) < -(d:Int)):=oM;have a7:¬((-1:Int) > 2147483648 -(j:Int)):=oM;clear r;go_wp2_with fail;refine wp_region_any kR<|bM (pJ:=(λ_ q=>Bk q a 197 ((tcells c).setIfInBounds b (.int .i64 (d - 1:Nat))))) [33,34,35,36,37,38,39,40,41,42,43] (λg=>g=a) 11 [5,11] [is a,is (b:Int),is a,is a,is (.pointer (some ⟨a,b,none⟩)),is (d:Int),is (.int .i64 (-1)),is (.int .i64 (d - 1:Nat)),is a,is a,is (.pointer (some ⟨a,b,none⟩)),cO] _ rfl kR kR (v) (λq a9 f _ H=>kf f H f.lt) (λ_ _ _ f I=>kf f I f.lt) tA1 ?_ ?_
 .refine aL<|pH3 0 (.pointer (some a))<|pH3 1 (.int .i64 b)<|pV3 0 33<|pV3 2 35<|pW3 3 36 1 34<|sC3 (λ_ x _ u _ _ _ e _ _ _ k=>?_) ?_
  .have m:=u rfl;have R:_=_:=e 4 37 kR rfl;have N:x.cell? ⟨a,b,none⟩=some (.int .i64 d):=(by rw [<-i];exact (m.cell b).trans (eH c n));go_simp;exact kq k rfl
  refine pH3 2 (.int .i64 (-1))<|sC3 (λ_ _ _ _ _ _ _ e _ _ _ k=>?_) ?_
  .have S:_=_:=e 5 38 kR rfl;have T:_=_:=e 6 39 kR rfl;go_simp;exact k _ _ (aE bR) (cS zu)
  refine pV3 0 33<|pV3 8 41<|pW3 9 42 1 34<|sC3 (λ_ x _ u _ _ _ e _ _ _ k=>?_) ?_
  .have m:=u rfl;have V:_=_:=e 10 43 kR rfl;have U:_=_:=e 7 40 kR rfl;have O:x.cell? ⟨a,b,none⟩=some (.int .i64 d):=(by rw [<-i];exact (m.cell b).trans (eH c n));have Z:=m.frozen b;go_simp;exact k (.bool true) _ (aW (ka (F:=λg=>g=a) (ke _ _) (p:=⟨a,b,none⟩) (.inl rfl) _)) (m.set b _)
  exact aB
 .intro X y t e D;replace t:Keep (λg=>g=a) w1 y:=kD t;obtain ⟨a8,o⟩:∃J,(λ_ q=>Bk q a 197 ((tcells c).setIfInBounds b (.int .i64 (d - 1:Nat)))) J y:=D 11 dC;simp only [zqq];clear e D;have M:y.cell? ⟨a,257,none⟩=some (.int .i64 j):=(by refine (o.cell 257).trans ?_;rw [zCe oM,<-l];exact jE c);have Y:=o.frozen 257;have W:(j:Int)+-1=(j - 1:Nat):=oM;have a2:=o.lt;go_wp2_with fail;go_ret;refine ⟨rfl,?_,?_⟩;rw [<-C];exact o.set 257 _;exact ((kF E).trans t).setCell (.inl rfl) _
def nN (w:World) (a:List (Nat×Nat)) (d:Ending) (w':World):Prop:=
 ∃b c,d=.returned (.slice b a.length c)/\Made w' w.heap.size 121 2 b a.length c (bU a)/\Below w.heap.size w w'
def jU (f:Nat):∀(d:List Value) (b:Nat) (w:World) (g:TypeId) (c:Array Value),Bk w f g c->∃e:Array Value,Bk (w.setCells f b d) f g e/\e.size=c.size/\∀a,a < c.size->e[a]?=if b<=a/\a < b+d.length then d[a - b]? else c[a]?
 | [],b,w,g,c,i=>⟨c,i,rfl,λa j=>by rw [zBw (by simp)]⟩
 | v::d,b,w,g,c,i=>by
  obtain ⟨e,m,n,o⟩:=jU f d (b+1) (w.setCell ⟨f,b,none⟩ v) g _ (i.set b v);refine ⟨e,m,by rw [n];simp,λa j=>?_⟩;rw [o a (by simpa using j)];by_cases k:b+1<=a/\a < b+1+d.length;rw [zBx k,zBx (by simp;omega),show a - b=(a -(b+1))+1 by omega];rfl
  .rw [zBw k,zCd];by_cases l:b=a;subst l;rw [zBx rfl,zBx j,zBx (by simp),zDK];rfl
   .rw [zBw l,zBw (by simp;omega)]
def mJ (a:Nat):∀(e:List Value) (b:Nat) (w0 w:World),Keep (λc=>c=a) w0 w->Keep (λc=>c=a) w0 (w.setCells a b e)
 | [],_,_,_,d=>d
 | v::e,b,w0,w,d=>mJ a e (b+1) w0 (w.setCell ⟨a,b,none⟩ v) (d.setCell (p:=⟨a,b,none⟩) (.inl rfl) v)
def iO {F:Nat->Prop} (a:Nat):∀(d:List Value) (b:Nat) (w0 w:World),w0.heap.size<=a->Keep F w0 w->Keep F w0 (w.setCells a b d)
 | [],_,_,_,_,c=>c
 | v::d,b,w0,w,hg,c=>iO a d (b+1) w0 (w.setCell ⟨a,b,none⟩ v) hg (c.setCell (p:=⟨a,b,none⟩) (.inr hg) v)
def Bk.shape {w b d a} (c:Bk w b d a):w.shape? b=some (d,a.size):=by
 unfold Bk at c;unfold World.shape?;rw [c]
def iK {c:Array Value} {d:List Value} {b:Nat} (g:d.length=b) (i:b<=c.size) (f:∀a,a < b->c[a]?=d[a]?):c.toList.take b=d:=by
 apply zDs;intro a;by_cases e:a < b;rw [zFI e,zDz];exact f a e
 .rw [List.getElem?_take_eq_none oM,zBg oM]
def wL {w B f c d g j} (k:w.ownsRow B g 1 (.slice (some f) c d) c j) (t:0 < c):∃b:Array Value,Bk w f g b/\b.size=d/\c<=d/\d<=maxLen/\B<=f/\∀e,e < c->b[e]?=j[e]?:=by
 rcases k.2 with ⟨a,s⟩|⟨r,q,b,a,l,m,p,o,u,i⟩
 .cases a
 .injection a with a _ h3;injection a with a;injection a with a _;subst a h3;refine ⟨b,m,by omega,p,o,l,λe n=>?_⟩;rw [zBl] at i;rw [<-i,zFI n,zDz]
def vQ (B:Nat) (e:Value) (a:Nat) (i:List Value) (w:World) (g:Ending) (w':World):Prop:=
 ∃b c,g=.returned (.slice b (a+1) c)/\w'.ownsRow B 3 1 (.slice b (a+1) c) (a+1) i/\Keep (λf=>e.ownBlock=some f) w w'/\((Value.slice b (a+1) c).ownBlock=e.ownBlock∨∃d,(Value.slice b (a+1) c).ownBlock=some d/\w.heap.size<=d)
def aBP {B s c f b d n j w} (E:w.ownsRow B 3 1 (.slice s c f) c (d.map sv)) (z:Bk w n 3 #[sv j]) (a8:∀u,(Value.slice s c f).ownBlock=some u->u≠n) (hB:B<=w.heap.size) (S:b < c) (ae:c<=1000000):
 Calls prog 88 #[.slice s c f,(b:Int),.slice (some n) 1 1] w (vQ B (.slice s c f) c ((aT d b j).map sv) w):=by
 have l:d.length=c:=by have:=E.1;simpa using this
 obtain ⟨g,ag,C,_,ad⟩:=kj E oM;injection C with C _ e3;subst C e3;obtain ⟨L,r,a5,a6,U,Z,O⟩:=wL E oM;have a7:n≠g:=λq=>a8 g rfl q.symm;have R:∀a e,(d.map sv)[a]?=some e->w.cell? ⟨g,0+a,none⟩=some e:=λa e k=>by
  have i:a < c:=by have:=(zAc.1 k).1;simpa [l] using this
  rw [zBi,r.cell,O a i,k]
 have W:∀a e, [sv j][a]?=some e->w.cell? ⟨n,0+a,none⟩=some e:=λa e k=>by
  rw [zBi,z.cell,<-k];rcases a with _ | a;rfl
  .simp at k
 have M:∀e∈d.map sv,e.oneCell'=true:=λe k=>by obtain ⟨ab,_,rfl⟩:=zAy.1 k;rfl
 have N:∀e∈ [sv j],e.oneCell'=true:=λe k=>by rw [zDa] at k;subst k;rfl
 have T:∀a,a < c+1->((aT d b j).map sv)[a]?=if a < b then (d.map sv)[a]? else if a=b then some (sv j) else (d.map sv)[a - 1]?:=λa i=>by rw [qB,jX _ _ (by rw [zBc];omega)]
 have y:((aT d b j).map sv).length=c+1:=by rw [zBc,cM _ _ oM,l]
 by_cases V:c+1<=f
 .have a4:∀a,a < c+1->w.cell? ⟨g,0+a,none⟩=some (L.getD a (.bool false)):=λa i=>by rw [zBi,r.cell,zAq oM];congr 1;rw [zAm,zAq oM];rfl
  have D:=Any2.slices_Insert_int_shift shIns g 0 c f b n 0 1 1 (d.map sv) [sv j] w S dC V (by unfold maxLen at U;omega) a7 (by simpa using l) rfl R (λa i=>by rw [a4 a i];rfl) (λa i=>by rw [zBi];exact r.frozen a) W M N 3 3 1 L.size (z.shape) (r.shape) oM (z.frozen 0) (z.frozen 1);refine D.mono ?_;rintro q w' ⟨rfl,rfl⟩;obtain ⟨Y,G,a9,H⟩:=jU g ((d.map sv).drop b) (0+(b+1)) w.drew _ _ r.drew;obtain ⟨A,J,aa,K⟩:=jU g [sv j] (0+b) _ _ _ G;refine ⟨_,f,rfl,⟨by rw [y,zBl],.inr ⟨g,f,A,rfl,Z,J,V,U,by omega,?_⟩⟩,(mJ g _ _ w _ (mJ g _ _ w _ (ke _ w).drew)).mono λu _ q=>by rw [show u=g from q];rfl,.inl rfl⟩;rw [zBl];refine iK y oM λa i=>?_;rw [T a i,K a oM,H a oM];simp only [zCg,zDM,zAw,zBc,l];by_cases m:a < b
  .rw [zBw oM,zBw oM,zBx m,O a oM]
  .by_cases p:a=b
   .subst p;rw [zBx oM,zBw oM,zBx rfl];simp
   rw [zBw oM,zBx oM,zBw m,zBw p,zBt];congr 1;omega
 .have D:=Any2.slices_Insert_int_grow shIns g 0 c f b n 0 1 1 (d.map sv) [sv j] w S dC a6 oM oM (by simpa using l) rfl R W M N;refine D.mono ?_;rintro q w' ⟨rfl,rfl⟩;obtain ⟨o,x⟩:=eqx (grownCap w (c+1) f 3);have a1:c+1<=o:=(by rw [<-x];exact grownCap_ge _ _ _ _);have a2:o<=maxLen:=(by rw [<-x];exact grownCap_le_maxLen _ _ _ _ zx);show vQ _ _ _ _ _ (.returned (.slice _ _ (grownCap w (c+1) f 3))) _;rw [x];have X:∀I,(Builtin.zeroCells (Value.int .i64 0).cells I).size=I:=λI=>by simp [Builtin.zeroCells,Value.cells]
  obtain ⟨t,v⟩:=eqx (((d.map sv).take b).toArray++Builtin.zeroCells (Value.int .i64 0).cells (c+1 - b)++Builtin.zeroCells (Value.int .i64 0).cells (o -(c+1)));have ac:t.size=o:=(by rw [<-v,Array.size_append,Array.size_append,X,X];simp [l];omega);have a0:∀a,a < b->t[a]?=(d.map sv)[a]?:=λa i=>by have af:(((d.map sv).take b).toArray).size=b:=(by simp [l];omega);rw [<-v,Array.append_assoc,Array.getElem?_append_left oM,zCy,zFI i]
  have a3:Bk (w.alloc (.cells t 3)) w.heap.size 3 t:=kd _ _ _;have a5:=v;show vQ _ _ _ _ _ _ ((((w.alloc (.cells (((d.map sv).take b).toArray++Builtin.zeroCells (Value.int .i64 0).cells (c+1 - b)++Builtin.zeroCells (Value.int .i64 0).cells (grownCap w (c+1) f 3 -(c+1))) 3)).drew.setCells w.heap.size b [sv j]).drew).setCells w.heap.size (b+1) ((d.map sv).drop b));rw [x,v];obtain ⟨Y,G,a9,H⟩:=jU w.heap.size [sv j] b _ _ _ a3.drew;obtain ⟨A,J,aa,K⟩:=jU w.heap.size ((d.map sv).drop b) (b+1) _ _ _ G.drew;refine ⟨_,o,rfl,⟨by rw [y,zBl],.inr ⟨w.heap.size,o,A,rfl,hB,J,a1,a2,by omega,?_⟩⟩,iO _ _ _ w _ nL (iO _ _ _ w _ nL ((ke _ w).alloc _).drew).drew,.inr ⟨_,rfl,zAs _⟩⟩;rw [zBl];refine iK y oM λa i=>?_;rw [T a i,K a oM,H a oM];simp only [zCg,zDM,zAw,zBc,l];by_cases m:a < b
  .rw [zBw oM,zBw oM,zBx m,a0 a m]
  .by_cases p:a=b
   .subst p;rw [zBw oM,zBx oM,zBw m,zBx rfl];simp
   rw [zBx oM,zBw m,zBw p,zBt];congr 1;omega
def aBQ {B A n c i ks gx k w} (f:w.ownsRow B 3 1 (.slice A n c) n (ks.map sv)) (g:Bk w gx 3 #[sv k]) (x:∀d,(Value.slice A n c).ownBlock=some d->d≠gx) (hB:B<=w.heap.size) (y:i<=n) (l:n<=1000000):
 Calls prog 88 #[.slice A n c,(i:Int),.slice (some gx) 1 1] w (vQ B (.slice A n c) n ((aT ks i k).map sv) w):=by
 by_cases s:i < n;exact aBP f g x hB s l
 .obtain rfl:i=n:=oM;have z:ks.length=i:=(by have:=f.1;simpa using this);have v:Rd w w.heap.size 1 (some ⟨gx,0,none⟩) 1 [sv k]:=by
   refine ⟨rfl,λ_=>⟨gx,0,rfl,g.lt,λo C e=>?_⟩⟩;rcases o with _ | o;injection e with e;subst e;exact (g.cell 0).trans rfl
   .simp at e
  refine (sW 1 f v hB l).mono ?_;rintro j w' ⟨D,rfl,m,a,b⟩;have r:(aT ks i k).map sv=ks.map sv++ [sv k]:=(by unfold aT;rw [zAg oM,zEE oM,zAz];rfl);obtain ⟨p,q,rfl,_⟩:=aZ m;refine ⟨p,q,rfl,by rw [r];exact m,⟨a.os,a.tape,a.output,a.size,λd t u=>a.block d t λj=>u j.symm⟩,?_⟩;rcases b with b | b;exact .inl b;exact .inr ⟨_,b,zAs _⟩
open Go.Sort (Holds PermIn SortedIn SWO heap_grow_old)
def aKn {w e base a c f k} {os:Array Obj} {d} {b:Array (Fin (e+1))} (i:b.size=f) (g:Bk w a 3 d) (p:base<=a) (l:f<=c) (m:c<=maxLen) (n:d.size=c):
 (sortWorld (fS e) w a 0 k b os).ownsRow base 3 1 (.slice (some a) f c) f ((b.toList.map λu=>u.val).map sv):=by
 have q:=g.lt;have r:(sortWorld (fS e) w a 0 k b os).heap[a]?=some (.cells (Go.Sort.putCells (fS e) 0 b d) 3 (0,0)):=by unfold sortWorld;rw [heap_grow_old _ _ (by show a < (w.heap.modify a _).size;simpa using q)];have o:w.heap[a]?=some (.cells d 3 (0,0)):=g;simp [Go.Sort.putRow,Go.Sort.mapBlock,Go.Sort.ahead,zFZ,o,Go.Sort.onCells]
 refine ⟨by simp [i],.inr ⟨a,c,_,rfl,p,r,l,m,by simp [Go.Sort.putCells,n],?_⟩⟩;rw [zBl];refine iK (by simp [i]) (by simp [Go.Sort.putCells];omega) λj v=>?_;have s:j < d.size:=oM;have t:j < b.size:=oM;simp [Go.Sort.putCells,Array.getElem?_mapIdx,s,t,fS,sv,aES]
def aIR {c a} (d:∀b∈a,b < c+1):(gN c a).toList.map (λf=>f.val)=a:=by
 unfold gN;rw [zCh]
 conv=>rhs;rw [<-List.map_id a]
 exact zFb λb e=>zBu (d b e)
def cfK (b:Nat) (a:Nat->Nat) (c d:Fin (b+1)):Int:=Lib.compareInt ((a c.val:Nat):Int) ((a d.val:Nat):Int)
def aC7 (b a) (c d:Fin (b+1)):ltOf (cfK b a) c d=decide (a c.val < a d.val):=by
 unfold ltOf cfK;rw [decide_eq_decide,zL];omega
def aMx (a:Nat) (b:Nat->Nat):SWO (ltOf (cfK a b)) where
 irrefl x:=by rw [aC7];simp
 trans x y z h1 h2:=by
  rw [aC7,zCa] at*
  omega
 ntrans x y z h1 h2:=by
  rw [aC7,decide_eq_false_iff_not] at*
  omega
def aEo {g c f} {b:Array (Fin (g+1))} (v:∀E∈c,E < g+1) (q:PermIn 0 (gN g c).size (gN g c) b) (D:SortedIn (ltOf (cfK g f)) 0 (gN g c).size b) (A:c.Nodup) (y:∀a∈c,∀r∈c,f a=f r->a=r):
 (b.toList.map λa=>a.val).Perm c/\(b.toList.map λa=>a.val).Pairwise (λs t=>f s < f t):=by
 have i:(b.toList.map λa=>a.val).Perm c:=by have:=(aAi q).map (λa:Fin (g+1)=>a.val);rwa [aIR v] at this
 refine ⟨i,?_⟩;have C:(b.toList.map λa=>a.val).Nodup:=i.nodup_iff.2 A;rw [zAr];intro d e j k n;have z:d < b.size:=by simpa using j
 have o:e < b.size:=by simpa using k
 have x:=D d e (zAp _) n (by rw [<-q.1];exact o);rw [aC7,decide_eq_false_iff_not,aES _ _ z,aES _ _ o] at x;have l:(b.toList.map λa=>a.val)[d]=b[d].val:=zs
 have m:(b.toList.map λa=>a.val)[e]=b[e].val:=zs
 have p:(b.toList.map λa=>a.val)[d]≠(b.toList.map λa=>a.val)[e]:=zAr.1 C d e j k n;have G:b[d].val∈c:=i.subset (by rw [<-l];exact zBj j);have H:b[e].val∈c:=i.subset (by rw [<-m];exact zBj k);rw [l,m] at p⊢;have I:f b[d].val≠f b[e].val:=λu=>p (y _ G _ H u);omega
@[irreducible] def cntL (L:List Nat):List Value:=(List.range 257).map λs=>.int .i64 ((L.count s:Nat):Int)
def aDl (b) {a} (c:a < 257):(cntL b)[a]?=some (.int .i64 (b.count a:Nat)):=by
 unfold cntL;rw [zAf,zCk c];rfl
def aE2 (a):(cntL a).length=257:=by unfold cntL;simp
def aLn {w b a} (f:Bk w b 197 (tcells a)):(loadCells ⟨b,0,none⟩ 257).run prog w=.ok (cntL a).toArray w:=by
 have:=run_loadCells_list (P:=prog) w ⟨b,0,none⟩ (cntL a) (λc i e=>by
  have g:(⟨b,0,none⟩:Addr).add c=⟨b,c,none⟩:=by unfold Addr.add;split <;> simp_all
  have d:c < 257:=by rw [<-aE2 a];exact (zAc.1 e).1
  rw [g,f.cell c,eH a d,<-aDl a d,e])
 rw [aE2] at this;exact this
def aBv {i:Oper} {b:Act} {w:World} {j:Act->World->Prop} {Q:Exit->Act->World->Prop} (a:TypeId) (l:Operand) (p:i.op=.load a l)
 (c:Addr) (t:b.eval l=.pointer (some c)) (d:Array Value) (g:Nat) (e:TypeDesc)
 (r:prog.underlying a=some e) (v:(match e with | .struct _ | .array _ _=>true | _=>false)=true) (k:(prog.info? a).map (·.size)=some g)
 (o:(loadCells c g).run prog w=.ok d w) (m:j (b.put i.dst (.agg d)) w):i.wp prog b w j Q:=by
 have s:(loadVar a c).run prog w=.ok (.agg d) w:=by
  cases f:prog.info? a with
  | none=>simp [f] at k
  | some u=>
   have q:u.size=g:=(by simpa [f] using k);have n:(isAgg a).run prog w=.ok true w:=(by unfold isAgg;rw [zFW,run_underlying r w];cases e <;> simp_all);simp [loadVar,zFW,n,sizeOf,typeInfo,f,q,o]
 unfold Oper.wp execOp;simp only [p,t,Instr.loadAt,Instr.sureAddr,zFW,Sem.run_pure,Result.andThen_ok,s];exact m
def aOm (b) (a:Nat) (c:a < 257) (w):(Instr.index 195 (.agg (cntL b).toArray) (.int .i64 a)).run prog w=.ok (.int .i64 (b.count a:Nat)) w:=by
 have j:(cntL b).toArray[a]?=some (.int .i64 (b.count a:Nat)):=by rw [zCy];exact aDl b c
 have d:(0:Int)<=a/\(a:Int) < (257:Nat):=oM;have g:=underlying195;have i:=underlying3;have f:=aDl b c;have e:(isAgg 3).run prog w=.ok false w:=by unfold isAgg;rw [zFW,run_underlying i w];rfl
 simp [Instr.index,asIntOf,zFW,run_underlying g w,d,Tryz.sizeOf3,c,part,e,f]
def aA1 {u b} (c) {d w} (m:Bk w u 197 (tcells b)) (X:d < 257) (j:b.countP (λa=>decide (a < d))<=c) (g:c < b.countP (λa=>decide (a < d))+b.count d) (W:b.length<=1000):
 Calls prog 113 #[u,(c:Int)] w λH w'=>H=.returned (.int .i64 d)/\Below w.heap.size w w':=by
 have D:=aLn m;have S:=m;clear m;have U:decide ((c:Int) < 0)=false:=zs
 go_enter func113,ntmps113;go_wp2_with fail;refine aBv 195 (.tmp 15) rfl ⟨u,0,none⟩ rfl (cntL b).toArray 257 _ underlying195 rfl kR D ?_;have v:=λa=>yB b a;have M:∀a,a < d->b.countP (λe=>decide (e < a))+b.count a<=b.countP (λe=>decide (e < d)):=λa O=>by rw [<-v a];exact List.countP_mono_left λe _ m=>by simp at m⊢;omega
 have G:=j;have z:=g;clear j g D;have V:c<=1000:=by
  have g:=z;have n:b.countP (λa=>decide (a < d))+b.count d<=b.length:=by rw [<-v d];exact zBh
  omega
 simp only [Act.put,zFu,List.set_cons_zero,List.set_cons_succ];go_wp2_with fail;go_loopw [1,17] (λi y wr=>∃a:Nat,a<=d/\y=.int .i64 a/\i=.int .i64 (c - b.countP (λe=>decide (e < a)):Nat)/\wr=w) (λ_ y _=>257 -(intOf y).toNat)
 case atStart=>exact ⟨0,by omega,rfl,by simp,rfl⟩
 case round=>
  obtain ⟨a,O,rfl,rfl,rfl⟩:=hrel;have N:=aOm b a oM;have j:=G;have g:=z;have n:=v a;have k:=M a;obtain ⟨f,s⟩:∃f,b.countP (λe=>decide (e < d))=f:=⟨_,rfl⟩;obtain ⟨i,l⟩:∃f,b.countP (λe=>decide (e < a))=f:=⟨_,rfl⟩;obtain ⟨E,x⟩:∃f,b.countP (λe=>decide (e < a+1))=f:=⟨_,rfl⟩;obtain ⟨q,o⟩:=eqx (b.count a);rw [s] at j g k;rw [l] at n k;rw [x,o] at n;rw [o] at k N;by_cases R:a < d
  .have L:=k R;have r:¬c - i < q:=oM;have I:=zBy r;have A:IntKind.i64.wrap ((c - i:Nat) -q)=((c - E:Nat):Int):=zu;have J:a < 257:=oM;have K:(a:Int) < 257:=oM;rw [l];obtain ⟨t,p⟩:=eqx (c - i);obtain ⟨T,C⟩:∃t,c - E=t:=⟨_,rfl⟩;rw [p] at r I A⊢;rw [C] at A;clear j g n k L s l o p;go_wp2_with fail;go_roundw
   case rel=>exact ⟨a+1,by omega,by go_num,by rw [x,C],by first | rfl | trivial⟩
   case measure=>exact zr
  .obtain rfl:a=d:=oM;rw [l];obtain rfl:f=i:=(by rw [<-s,<-l]);rw [o] at g;have r:c - f < q:=oM;have J:a < 257:=oM;have K:(a:Int) < 257:=oM;obtain ⟨t,p⟩:=eqx (c - f);rw [p] at r⊢;clear j g n k s l x o p;go_wp2_with fail;go_ret;exact ⟨rfl,kg _ _⟩
def aBU {B A n c i ks w} (r:w.ownsRow B 3 1 (.slice A n c) n (ks.map sv)) (W:i < n) (X:n<=1000000):
 Calls prog 209 #[.slice A n c,(i:Int),.int .i64 (i+1:Nat)] w λk w'=>k=.returned (.slice A (n - 1) c)/\w'.ownsRow B 3 1 (.slice A (n - 1) c) (n - 1) ((aK ks i).map sv)/\Keep (λm=>(Value.slice A n c).ownBlock=some m) w w':=by
 have z:ks.length=n:=by have:=r.1;simpa using this
 obtain ⟨d,a0,o,_,V⟩:=kj r oM;injection o with o _ e3;subst o e3;obtain ⟨E,u,S,Y,C,G,J⟩:=wL r oM;obtain ⟨b,t⟩:∃b:List Int,ks.map (λR=>((R:Nat):Int))=b:=⟨_,rfl⟩;have s:b.length=n:=by rw [<-t,zBc,z]
 have O:ks.map sv=b.map (Value.int .i64):=by rw [<-t,zCh];rfl
 have H:Sort.Holds (Value.int .i64) w d 0 b.toArray:=holds_of_blockI u (by
  refine iK zs oM λa q=>?_;rw [J a oM,O])
 have p:=Any.slices_Delete_int shDel d 0 c i (i+1) b w H oM (by unfold maxLen at C;omega) oM oM;rw [s] at p;have U:(aK ks i).length+1=n:=by rw [cJ oM,z]
 have T:(aK b i).length+1=n:=by rw [cJ oM,s]
 obtain ⟨j,l⟩:=eqx (b.take i++b.drop (i+1)++List.replicate (i+1 - i) 0);have Z:j.length=n:=by rw [<-l];simp [s];omega
 have M:∀a,a < n - 1->j[a]?=(aK b i)[a]?:=λa q=>by rw [<-l];show ((aK b i)++List.replicate (i+1 - i) 0)[a]?=_;rw [zAn oM]
 rw [l] at p;clear l;refine p.mono ?_;rintro k w' ⟨rfl,D,rfl⟩;have e:=grownBy_sortedI (w:=w) (g:=d) (n:=D) (os:=#[]) j.toArray;have v:=heap_sortedI (w:=w) (g:=d) (n:=D) (os:=#[]) j.toArray u;rw [Go.Sort.grow_empty] at e v;refine ⟨by rw [show i+1 - i=1 by omega],⟨by rw [zBc,zBl];omega,.inr ⟨d,c,_,rfl,G,v,by omega,C,by simp [Go.Sort.putCells];omega,?_⟩⟩,⟨e.os,e.tape,e.output,e.size,λm I L=>e.block m I λk=>L k.symm⟩⟩;rw [zBl];refine iK (by rw [zBc];omega) (by simp [Go.Sort.putCells];omega) λa q=>?_;have x:a < (aK ks i).length:=oM;have N:(aK b i)[a]?=some (((aK ks i)[a]:Nat):Int):=by rw [<-t,<-uY,zAf,zAa x];rfl
 rw [zAf,zAa x];have f:=M a q;rw [N] at f;have K:a < E.size:=oM;have y:a < j.length:=oM;rw [zAa y] at f;injection f with f;simp [Go.Sort.putCells,Array.getElem?_mapIdx,K,y,f,sv]
def Tr.br (a:List Bool):Option Tr:=if a.length=0 then none else some (Tr.mk a)
def Tr.b3 (a):cH (Tr.br a)=a:=by
 unfold Tr.br;split
 .rename_i b
  exact (zBk b).symm
 exact Tr.mk_bits oM
def aEe {e c} {d b:Nat} {g:Int} (k:c d) (j:c b) (ht:Bk e d 223 #[b,(),(-1:Int),(g:Int)]) (i:Bk e b 173 #[(),(),(268435456:Int)]):TX e c d b none 0 0 [] [] [] (-1) g:=
 ⟨k,⟨ht,ki _ _ _ _⟩,(λf a=>by cases a),⟨j,none,0,none,0,i,ki _ _ _ _,ki _ _ _ _,(λf a=>by cases a),λf a=>by cases a⟩,rfl,λm l=>by omega⟩
def aJz {s c t B e a} (M:Rd a B 1 s c (e.map Value.bool)) (hB:B<=a.heap.size) (K:c<=1100) (a7:c<=t):
 Calls prog 190 #[.slice s c t] a λk z=>∃G,k=.returned (.pointer (some ⟨G,0,none⟩))/\TreeEo z (λd=>a.heap.size<=d) G (Tr.br e)/\Below a.heap.size a z:=by
 have g:e.length=c:=by simpa using M.1
 go_enter func190,ntmps190;go_wp2_with fail;refine (vX _).mono ?_;rintro k w1 ⟨rfl,H,w⟩;have l:=w.size;rcases zBa c with u | u
 .subst u;have a8:Tr.br e=none:=(by unfold Tr.br;rw [zBx g]);go_wp2_with fail;go_ret;have a3:=w.alloc l (.cells #[a.heap.size,(),(-1:Int),o0] 223);rw [a8];exact ⟨_,rfl,⟨_,_,_,_,_,_,_,_,_,aEe l nL (kd _ _ _) (H.alloc _),by omega,.inl ⟨rfl,rfl,zFU _⟩⟩,a3⟩
 .obtain ⟨b,I⟩:=eqx (Tr.lvs c);have x:(c+127)/ 128=b:=I;have am:((c:Int)+128 - 1)/ 128=(b:Int):=oM;have an:(0:Int) < b:=oM;have o:=w.alloc l (.cells #[a.heap.size,(),(-1:Int),o0] 223);have y:=kd w1 223 #[a.heap.size,(),(-1:Int),o0];have v:=H.alloc (.cells #[a.heap.size,(),(-1:Int),o0] 223);have N:=(M.mono hB).below o;obtain ⟨A,aa⟩:=eqx (w1.alloc (.cells #[a.heap.size,(),(-1:Int),o0] 223));rw [aa] at y v N o;have a2:TS A (λd=>a.heap.size<=d) w1.heap.size 0 [] [] (-1) 0:=⟨_,_,_,_,aEe l nL y v⟩;clear y v;go_wp2_with fail;have q:0 < b:=(zj x);have aj:b<=9:=(zj x);have n:=o.size;have a6:∀m,m < b->(Tr.cut e b m (m+1)).length<=128:=(by intro m ak;rw [Tr.cut_len q oM,g];exact Tr.leaf_len q (zj x));refine (aJV (λd=>a.heap.size<=d) w1.heap.size (-1) 0 s c t a.heap.size b e a7 oM q oM g (λd j ai=>by omega) a6 (b - 1) 0 b 0 [] [] A q oM nL a2 (λd j=>zAk n j) oM (zFU _) N n).mono ?_;rintro k O ⟨f,ab,ad,rfl,⟨a0,P,U,ac,i⟩,C,D,V,W,X,Y,Z,E⟩;have ae:=i.rd.c2;have ah:=i.rd.a.frozen 2;have al:=i.rd.a.lt;have Q:=(i.ao (f.num:Int));have R:=(D.keep (w':=O.setCell ⟨w1.heap.size,2,none⟩ (.int .i64 f.num)) (λ_ _ _ T=>T) λF _ af j=>j.m (p:=⟨w1.heap.size,2,none⟩) (Bk.ne j i.rd.a dC) _);have J:Below a.heap.size A O:=E.keep.e n (λd j k=>by have ag:a.heap.size<=d:=k;omega);have S:=((o.trans J).setCell (p:=⟨w1.heap.size,2,none⟩) l (.int .i64 f.num));have r:f.er=Tr.mk e:=(by rw [C];unfold Tr.mk;rw [g,I]);have L:0 < e.length:=(by rw [g];exact u);have a9:f.er.Ok:=(by rw [r];exact Tr.mk_ok L (by rw [g];exact K));have a5:f.len<=1100:=(by show f.er.bits.length<=1100;rw [r,Tr.mk_bits L,g];exact K);have a1:Tr.br e=some f.er:=(by unfold Tr.br;rw [zBw oM,r]);clear i C D Z E J r;go_wp2_with fail;go_ret;exact ⟨_,rfl,a1 ▸⟨a0,P,U,ab,ad,ac, [],_,0,Q,by have:=W;omega,.inr ⟨f,rfl,R,rfl,a9,a5,V,X,λF a4=>zAk n (Y F a4)⟩⟩,S⟩
def aFk {f c i g d a} (p:Rd a g 1 f c (d.map Value.bool)) (hB:g<=a.heap.size) (n:c<=1100) (o:c<=i):
 Calls prog 190 #[.slice f c i] a λj e=>∃b,j=.returned (.pointer (some ⟨b,0,none⟩))/\TreeB e a.heap.size b d/\Below a.heap.size a e:=by
 refine (aJz p hB n o).mono ?_;rintro j e ⟨b,k,l,m⟩;exact ⟨b,k,⟨_,Tr.b3 d,l⟩,m⟩
def qS (m:Nat->Prop) (s t d:Nat) (a b:LT) (v:List Value) (p:List Nat) (u q:Int) (r:World) (o:Ending) (i:World):Prop:=
 ∃(g:List Value) (j:List Nat) (l:Int),TS i m s t g j u l/\(l=q∨l=wrap64 (q+2))/\ButL (d::(a.nums++b.nums)) v g/\LK m (a.blks++b.blks) r i/\
  ((∃k c n,o=.returned (.int .i64 (k:Nat))/\Tr.mend a.er b.er=.lf n/\(LT.lf k c n).In i g/\(k::j).Perm (d::(a.nums++b.nums)++p)/\c∈a.blks++b.blks)∨
   (∃e f:LT,o=.returned (.int .i64 d)/\Tr.mend a.er b.er=.nd e.er f.er/\Nd g d e.num f.num/\e.In i g/\f.In i g/\(d::(e.nums++f.nums)++j).Perm (d::(a.nums++b.nums)++p)/\(e.blks++f.blks).Nodup/\∀c,c∈e.blks++f.blks->c∈a.blks++b.blks∨r.heap.size<=c))
def TX.c9 {q p z y w E b a o H x G I L r} (A:TX q p z y (some ⟨b,0,none⟩) w E o H x G I) (B:Bk q b 226 L) (C:At8 o a r) (c d e f g k l m):
 TX ((((((((q.setCell ⟨b,a*8,none⟩ (.int .i64 c)).setCell ⟨b,a*8+1,none⟩ (.int .i64 d)).setCell ⟨b,a*8+2,none⟩ (.int .i64 e)).setCell ⟨b,a*8+3,none⟩ (.int .i64 f)).setCell ⟨b,a*8+4,none⟩ (.int .i64 g)).setCell ⟨b,a*8+5,none⟩ (.int .i64 k)).setCell ⟨b,a*8+6,none⟩ (.int .i64 l)).setCell ⟨b,a*8+7,none⟩ (.pointer m)) p z y (some ⟨b,0,none⟩) w E ((((((((o.set (a*8) (.int .i64 c)).set (a*8+1) (.int .i64 d)).set (a*8+2) (.int .i64 e)).set (a*8+3) (.int .i64 f)).set (a*8+4) (.int .i64 g)).set (a*8+5) (.int .i64 k)).set (a*8+6) (.int .i64 l)).set (a*8+7) (.pointer m)) H x G I/\
 At8 ((((((((o.set (a*8) (.int .i64 c)).set (a*8+1) (.int .i64 d)).set (a*8+2) (.int .i64 e)).set (a*8+3) (.int .i64 f)).set (a*8+4) (.int .i64 g)).set (a*8+5) (.int .i64 k)).set (a*8+6) (.int .i64 l)).set (a*8+7) (.pointer m)) a [.int .i64 c,.int .i64 d,.int .i64 e,.int .i64 f,.int .i64 g,.int .i64 k,.int .i64 l,.pointer m]/\
 But8 a o ((((((((o.set (a*8) (.int .i64 c)).set (a*8+1) (.int .i64 d)).set (a*8+2) (.int .i64 e)).set (a*8+3) (.int .i64 f)).set (a*8+4) (.int .i64 g)).set (a*8+5) (.int .i64 k)).set (a*8+6) (.int .i64 l)).set (a*8+7) (.pointer m))/\
 LK p [] q ((((((((q.setCell ⟨b,a*8,none⟩ (.int .i64 c)).setCell ⟨b,a*8+1,none⟩ (.int .i64 d)).setCell ⟨b,a*8+2,none⟩ (.int .i64 e)).setCell ⟨b,a*8+3,none⟩ (.int .i64 f)).setCell ⟨b,a*8+4,none⟩ (.int .i64 g)).setCell ⟨b,a*8+5,none⟩ (.int .i64 k)).setCell ⟨b,a*8+6,none⟩ (.int .i64 l)).setCell ⟨b,a*8+7,none⟩ (.pointer m)):=by
 have O:=C.1;refine ⟨(((((((A.put (a*8) (.int .i64 c)).put (a*8+1) (.int .i64 d)).put (a*8+2) (.int .i64 e)).put (a*8+3) (.int .i64 f)).put (a*8+4) (.int .i64 g)).put (a*8+5) (.int .i64 k)).put (a*8+6) (.int .i64 l)).put (a*8+7) (.pointer m),?_,(((((((But8.set a o (j:=0) oM (.int .i64 c)).trans (But8.set a _ (j:=1) oM (.int .i64 d))).trans (But8.set a _ (j:=2) oM (.int .i64 e))).trans (But8.set a _ (j:=3) oM (.int .i64 f))).trans (But8.set a _ (j:=4) oM (.int .i64 g))).trans (But8.set a _ (j:=5) oM (.int .i64 k))).trans (But8.set a _ (j:=6) oM (.int .i64 l))).trans (But8.set a _ (j:=7) oM (.pointer m)),?_⟩
 .have M:=(((((((C.set (j:=0) oM (.int .i64 c)).set (j:=1) oM (.int .i64 d)).set (j:=2) oM (.int .i64 e)).set (j:=3) oM (.int .i64 f)).set (j:=4) oM (.int .i64 g)).set (j:=5) oM (.int .i64 k)).set (j:=6) oM (.int .i64 l)).set (j:=7) oM (.pointer m)
  match r,O with
  | [R,S,T,U,V,W,X,Y],_=>exact M
 have P:p b:=OwnF.at A.own;have n:=λ(J:World) (r:Array Value) (D:Nat) (Q:Value) (N:Bk J b 226 r)=>LK.set (F:=p) (bl:= []) (i:=D) N dC P Q;have b1:=B.set (a*8) (.int .i64 c);have b2:=b1.set (a*8+1) (.int .i64 d);have s:=b2.set (a*8+2) (.int .i64 e);have t:=s.set (a*8+3) (.int .i64 f);have u:=t.set (a*8+4) (.int .i64 g);have v:=u.set (a*8+5) (.int .i64 k);have K:=v.set (a*8+6) (.int .i64 l);exact ((((((n _ _ _ _ B).trans (n _ _ _ _ b1)).trans (n _ _ _ _ b2)).trans (n _ _ _ _ s)).trans (n _ _ _ _ t)).trans (n _ _ _ _ u)).trans ((n _ _ _ _ v).trans (n _ _ _ _ K))
def rL {g j l p} {b c:LT} {d i q m a} (u:TS a g j l d i q m) (f:Nd d p b.num c.num) (x:b.In a d) (y:c.In a d) (G:(b.blks++c.blks).Nodup) (D:b.J=false) (E:c.J=false) (F:Tr.mend b.er c.er=.nd b.er c.er):
 Calls prog 243 #[j,(p:Int)] a (qS g j l p b c d i q m a):=by
 obtain ⟨U,Z,a0,X,Y,f⟩:=f;obtain ⟨W,s⟩:=eqx b.num;obtain ⟨a1,t⟩:=eqx c.num;rw [s,t] at f;have v:=u;obtain ⟨S,O,P,a2,e⟩:=u;obtain ⟨T,Q,rfl,w⟩:=e.rd.ex (zj (f.lt e.rd.len));have B:=e.rd.c1;have J:=e.rd.a.lt;have I:=w.lt;have V:(p:Int) < l:=zj (f.lt e.rd.len)
 obtain ⟨M,N,_⟩:=e.rd.at f;clear e w;go_enter func243,ntmps243;go_wp2_with fail;go_quiet (fail);have k:Below a.heap.size a (a.drewN nq):=km (kg a.heap.size a) nq;have r:=v.below k;have K:LK g [] a (a.drewN nq):=LK.below k;have z:=x.below k;have A:=y.below k;clear B M N v x y J I;generalize a.drewN nq=w1 at*
 clear k;have n:=jS g j l b d i q m w1 r z;rw [s] at n;have o:=jS g j l c d i q m w1 r A;rw [t] at o;rw [D] at n;rw [E] at o;go_wp2_with fail;refine n.mono ?_;rintro C L ⟨rfl,rfl⟩;go_wp2_with fail;refine o.mono ?_;rintro C L ⟨rfl,rfl⟩;clear n o;go_wp2_with fail;go_ret;exact ⟨d,i,m,r,.inl rfl,ButL.refl _ _,K.mono zs,.inr ⟨b,c,rfl,F,⟨_,_,_,_,_,by rw [s,t];exact f⟩,z,A,.refl _,G,λR H=>.inl H⟩⟩
def aM4 {k s n e} (o B g F) {f i} {a b:LT} (r:a=.lf o B f) (er:b=.lf g F i) {j m D q d} (ac:TS d k s n j m D q) (x:Nd j e a.num b.num) (am:a.In d j) (ap:b.In d j) (u:(a.blks++b.blks).Nodup) (ad:∀ab,ab∈a.blks++b.blks->k ab) (ak:∀z,d.heap.size<=z->k z) (I:(e::(a.nums++b.nums)++m).Nodup) (ao:∀aB,aB∈e::(a.nums++b.nums)++m->aB < n) (aZ:m.length<=1000000) (aR:f.length<=128) (aS:i.length<=128) (aj:f.length < 32∨i.length < 32):
 Calls prog 243 #[s,(e:Int)] d (qS k s n e a b j m D q d):=by
 obtain ⟨bq,bE,bF,bC,bD,x⟩:=x;obtain ⟨bB,X⟩:=eqx a.num;obtain ⟨bG,Y⟩:=eqx b.num;rw [X,Y] at x;have ae:=ac;obtain ⟨bk,b6,bc,bH,v⟩:=ac;obtain ⟨bo,bg,rfl,ah⟩:=v.rd.ex (zj (x.lt v.rd.len));have aH:=v.rd.c1;have aX:=v.rd.a.lt;have aW:=ah.lt;have bw:(e:Int) < n:=zj (x.lt v.rd.len)
 obtain ⟨b4,b5,_⟩:=v.rd.at x;obtain ⟨a7,a8⟩:=hqq2 X Y;clear v ah X Y;go_enter func243,ntmps243;go_wp2_with fail;go_quiet (fail);have H:Below d.heap.size d (d.drewN nq):=km (kg d.heap.size d) nq;have G:=ae.below H;have b1:LK k [] d (d.drewN nq):=LK.below H;have au:=am.below H;have av:=ap.below H;clear aH b4 b5 ae am ap aX aW;generalize d.drewN nq=w1 at*
 clear H;have A:=jS k s n a j m D q w1 G au;rw [a7.out] at A;have M:=jS k s n b j m D q w1 G av;rw [a8.out] at M;have b0:o≠g:=λl=>by rw [r,er,l] at I;simp [LT.nums] at I
 have al:F≠B:=λl=>by rw [r,er,l] at u;simp [LT.blks] at u
 have aT:k B:=ad B (by simp [r,LT.blks]);have aU:k F:=ad F (by simp [er,LT.blks]);have an:Tr.mend a.er b.er=if f.length+i.length<=128 then .lf (f++i) else .nd (.lf ((f++i).take ((f.length+i.length)/ 2))) (.lf ((f++i).drop ((f.length+i.length)/ 2))):=by rw [r,er];show Tr.mend (.lf f) (.lf i)=_;simp only [Tr.mend];rw [zBx aj]
 obtain ⟨c,a5⟩:=hqq2 (And.intro r er) an;have ba:=u;have V:a.J=decide (f.length < 32):=by rw [r];rfl
 have aa:b.J=decide (i.length < 32):=by rw [er];rfl
 have ax:a.num=o:=by rw [r];rfl
 have ay:b.num=g:=by rw [er];rfl
 have az:=a7.out;have aA:=a8.out;rw [ax] at az;rw [ay] at aA;subst az aA;clear r er an u ax ay;have aC:=(show (LT.lf o B f).In w1 j by rw [<-c.1];exact au);have aD:=(show (LT.lf g F i).In w1 j by rw [<-c.2];exact av);go_upto_region 2 with fail;go_cut [34] from 25 (λa4 b3=>a4=.bool false/\b3=w1)
 case first=>
  by_cases a9:f.length < 32
  .have U:a.J=true:=(by rw [V];exact zBz a9);rw [U] at A;go_wp2_with fail;refine A.mono ?_;rintro l a2 ⟨rfl,rfl⟩;go_wp2_with fail;go_meet;exact ⟨rfl,rfl⟩
  .have U:a.J=false:=(by rw [V];exact zBy a9);have aL:b.J=true:=(by rw [aa];exact zBz (zj aj));rw [U] at A;rw [aL] at M;go_wp2_with fail;refine A.mono ?_;rintro l a2 ⟨rfl,rfl⟩;go_wp2_with fail;refine M.mono ?_;rintro l a2 ⟨rfl,rfl⟩;go_wp2_with fail;go_meet;exact ⟨rfl,rfl⟩
 case rest=>
 obtain ⟨rfl,rfl⟩:=hcut;clear A M V aa;have a1:=G.ab (wrap64 (q+2));have K:=G.b4 3 (.int .i64 (wrap64 (q+2)));obtain ⟨bl,b7,bd,bI,N⟩:=G;have aJ:=N.rd.c3;have aN:=N.rd.a.frozen 3;have bs:=N.rd.a.lt;obtain ⟨a2,Z⟩:=eqx (wc.setCell ⟨s,3,none⟩ (.int .i64 (wrap64 (q+2))));rw [Z] at a1 K;have Q:=aC.but (ButL.refl [] _) K zs zs;have R:=aD.but (ButL.refl [] _) K zs zs;have a6:=a1;obtain ⟨bm,b8,be,bJ,t⟩:=a1;obtain ⟨bp,bh,rfl,ai⟩:=t.rd.ex oM;have aI:=t.rd.c1;have bv:(o:Int) < n:=zj ((Q.1).lt t.rd.len)
 have bx:(g:Int) < n:=zj ((R.1).lt t.rd.len)
 obtain ⟨_,_,_,_,_,_,_,aK⟩:=t.rd.at (show At8 j o [_,_,_,_,_,_,_,_] from Q.1);obtain ⟨_,_,_,_,_,_,_,aM⟩:=t.rd.at (show At8 j g [_,_,_,_,_,_,_,_] from R.1);have bt:=t.rd.a.lt;have br:=ai.lt;have E:=(b1.trans K);have aE:=lhd Z;clear K N Z t ai;go_upto_region 12 with fail;rw [aE.out];clear aJ aN;go_wp2_with fail;by_cases W:f.length+i.length<=128
 .refine (xI a6 Q R al aT aU W).mono ?_;rintro l y ⟨rfl,a3,S,J,L,C⟩;obtain ⟨bn,b9,bf,bK,O⟩:=S;have P:Below y.heap.size y (y.alloc (.cells #[(g:Int),(e:Int)] 3)):=bR.alloc nL _;have af:=O.below P;have aq:=kd y 3 #[(g:Int),(e:Int)];have bb:=O.rd.c0;have bu:=O.rd.a.lt;have aY:g≠e:=λl=>by have:=I;rw [c.2,l] at this;simp [LT.nums] at this
  have bA:d.heap.size<=y.heap.size:=zAk E.keep.size C.keep.size;have w:=I;rw [zDb] at w;have aV:=aBn af (λz u=>ak z (by rw [sZ0] at u;omega)) (ao g (by simp [c.2,LT.nums])) (λp=>w.2.2 g (by simp [c.2,LT.nums]) g p rfl) (ao e zs) (λp=>w.2.2 e zs e p rfl) aY aq aZ;have aF:=(J.below P);have aG:=((E.mono (bl':=a.blks++b.blks) zs).trans ((C.mono (bl':=a.blks++b.blks) (by simp [c.1,c.2,LT.blks])).trans (LK.below P)));clear O af aq J C P w aI aK aM;go_wp2_with fail;refine aV.mono ?_;rintro l b2 ⟨rfl,ag,a0⟩
  have T:=(show qS k s n e a b j m D q d (.returned (.int .i64 (o:Nat))) b2 from
   ⟨a3,m++ [g,e],_,⟨_,_,_,_,ag⟩,.inr rfl,L.mono (by simp [c.1,LT.nums]),aG.trans (a0.mono zs),.inl ⟨o,B,f++i,rfl,by rw [a5.out,zBx W],aF.but (ButL.refl [] _) a0 zs zs,by
    rw [c.1,c.2,zDc];intro a4;simp only [LT.nums,zDg,zCc,zEz];omega,by simp [c.1,LT.blks]⟩⟩)
  clear ag a0;go_wp2_with fail;go_ret;exact T
 .refine (aBk a6 Q R al b0 (λz u=>ak z (zAk E.keep.size u)) oM aR aS).mono ?_;rintro l y ⟨rfl,a3,aO,aQ,S,J,aw,aP,bi,bj,L,C⟩;have bz:=E.keep.size
  have T:=(show qS k s n e a b j m D q d (.returned (.int .i64 e)) y from
   ⟨a3,m,_,S,.inr rfl,L.mono (by simp [c.1,c.2,LT.nums]),(E.trans C).mono zs,.inr ⟨.lf o aO _,.lf g aQ _,rfl,by rw [a5.out,zBw W];rfl,⟨_,_,_,_,_,L _ _ (λp=>by
    have w:=I;rw [c.1,c.2] at w;simp only [zDf,zDh,or_false] at p
    rcases p with p | p <;> simp [LT.nums,p] at w) x⟩,J,aw,by rw [c.1,c.2];exact .refl _,by simp [LT.blks,aP],λa4 ar=>.inr (by
     simp only [LT.blks,zCp,zDa] at ar;rcases ar with rfl | rfl <;> omega)⟩⟩)
  clear S J aw L C;go_wp2_with fail;go_ret;exact T
def aM3 {t H y b} (r B e q L) {s w} (m:LT) {f n:LT} (G:f=.lf r B s) (er:n=.nd e (.lf q L w) m) {v u U J o} (b0:TS o t H y v u U J) (O:Nd v b f.num n.num) (bc:f.In o v) (aE:n.In o v) (C:(f.blks++n.blks).Nodup) (az:∀x,x∈f.blks++n.blks->t x) (ba:∀V,o.heap.size<=V->t V) (aA:(b::(f.nums++n.nums)++u).Nodup) (be:∀g,g∈b::(f.nums++n.nums)++u->g < y) (bZ:u.length<=1000000) (bN:s.length<=128) (bO:w.length<=128) (b9:s.length < 32) (c6:n.L):
 Calls prog 243 #[H,(b:Int)] o (qS t H y b f n v u U J o):=by
 have bf:=aE;obtain ⟨cK,cZ,d0,cX,cY,O⟩:=O;obtain ⟨cW,aD⟩:=eqx f.num;obtain ⟨d2,aF⟩:=eqx n.num;rw [aD,aF] at O;have b2:=b0;obtain ⟨cF,cn,cv,d3,S⟩:=b0;obtain ⟨cJ,cA,rfl,b7⟩:=S.rd.ex (zj (O.lt S.rd.len));have bG:=S.rd.c1;have bX:=S.rd.a.lt;have bW:=b7.lt;have cS:(b:Int) < y:=zj (O.lt S.rd.len)
 obtain ⟨ck,aM,_⟩:=S.rd.at O;obtain ⟨aQ,aR⟩:=hqq2 aD aF;clear S b7 aD aF;go_enter func243,ntmps243;go_wp2_with fail;go_quiet (fail);have a7:Below o.heap.size o (o.drewN nq):=km (kg o.heap.size o) nq;have a5:=b2.below a7;have c7:LK t [] o (o.drewN nq):=LK.below a7;have bi:=bc.below a7;have bk:=aE.below a7;clear bG ck aM b2 bc aE bX bW;generalize o.drewN nq=w1 at*
 clear a7;have a4:=jS t H y f v u U J w1 a5 bi;rw [aQ.out] at a4;have aZ:=jS t H y n v u U J w1 a5 bk;rw [aR.out] at aZ;have bb:L≠B:=λd=>by rw [G,er,d] at C;simp [LT.blks] at C
 have bS:∀x,x∈m.blks->x∉ [B,L]:=λx T a=>by rw [G,er] at C;have X:(B::L::m.blks).Nodup:=C;rw [zDe,zDe] at X;simp only [zDf,zDh,or_false] at a;rcases a with rfl | rfl;exact X.1 (by simp [T]);exact X.2.1 T
 have bP:t B:=az B (by simp [G,LT.blks]);have bQ:t L:=az L (by simp [er,LT.blks]);have bd:Tr.mend f.er n.er=if s.length+w.length<=128 then .nd (.lf (s++w)) m.er else .nd (.lf ((s++w).take ((s.length+w.length)/ 2))) (.nd (.lf ((s++w).drop ((s.length+w.length)/ 2))) m.er):=by rw [G,er];show Tr.mend (.lf s) (.nd (.lf w) m.er)=_;simp only [Tr.mend];rw [zBx b9]
 have p:b≠r/\b≠q/\b≠e/\r≠q/\r≠e/\q≠e/\(∀g,g∈m.nums->g≠b/\g≠r/\g≠q/\g≠e)/\q∉u/\e∉u:=by rw [G,er] at aA;have aB:(b::r::e::q::(m.nums++u)).Nodup:=aA;rw [zDe,zDe,zDe,zDe] at aB;simp only [zDf,zCp,not_or] at aB;obtain ⟨⟨aK,cd,ce,cf,d8⟩,⟨aq,ci,cj,d9⟩,⟨aM,cl,cm⟩,⟨ca,Z⟩,_⟩:=aB;refine ⟨aK,ce,cd,ci,aq,λd=>aM d.symm,λg i=>⟨λd=>cf (d ▸ i),λd=>cj (d ▸ i),λd=>ca (d ▸ i),λd=>cl (d ▸ i)⟩,Z,cm⟩
 obtain ⟨c,aN⟩:=hqq2 (And.intro G er) bd;have aP:=C;have bw:=(show m.In o v by have:=bf;rw [er] at this;exact this.2.2);have aY:f.J=true:=by rw [G];exact zBz b9
 have bm:f.num=r:=by rw [G];rfl
 have bn:n.num=e:=by rw [er];rfl
 have bo:=aQ.out;have bp:=aR.out;rw [bm] at bo;rw [bn] at bp;subst bo bp;rw [aY] at a4;clear G er aA bd az C bm bn aZ bf;have bu:=(show (LT.lf r B s).In w1 v by rw [<-c.1];exact bi);have bv:=(show (LT.nd e (.lf q L w) m).In w1 v by rw [<-c.2];exact bk);have bt:=a4;go_wp2_with fail;refine a4.mono ?_;rintro d wf ⟨rfl,rfl⟩;clear bt a4;have Z:=a5.ab (wrap64 (J+2));have ad:=a5.b4 3 (.int .i64 (wrap64 (J+2)));obtain ⟨cG,co,cw,d4,ah⟩:=a5;have bI:=ah.rd.c3;have bJ:=ah.rd.a.frozen 3;have cN:=ah.rd.a.lt;obtain ⟨br,aG⟩:=eqx (wf.setCell ⟨H,3,none⟩ (.int .i64 (wrap64 (J+2))));rw [aG] at Z ad;have ab:=bu.but (ButL.refl [] _) ad zs zs;have P:=bv.but (ButL.refl [] _) ad zs zs;have aO:=Z;have ax:=jS t H y _ v u U _ br Z ab;rw [show (LT.lf r B s).J=true from aY ▸ congrArg LT.J c.1.symm] at ax;obtain ⟨cH,cp,cx,d5,M⟩:=Z;obtain ⟨bM,cB,rfl,b8⟩:=M.rd.ex oM;have aS:=M.rd.c1;have cR:(r:Int) < y:=zj ((ab.1).lt M.rd.len)
 have cT:(e:Int) < y:=zj ((P.1).lt M.rd.len)
 obtain ⟨_,_,_,_,_,_,_,aU⟩:=M.rd.at (show At8 v r [_,_,_,_,_,_,_,_] from ab.1);obtain ⟨aV,_,_,_,_,_,_,aX⟩:=M.rd.at (show At8 v e [_,_,_,_,_,_,_,_] from P.1);have aW:br.cell? ⟨bM,e*8,none⟩=some (.int .i64 q):=aV;have cO:=M.rd.a.lt;have cL:=b8.lt;have a1:=(c7.trans ad);have bx:=lhd aG;clear ad ah aG M b8 aV;go_upto_region 12 with fail;rw [bx.out];clear bI bJ;go_wp2_with fail;refine ax.mono ?_;rintro d d7 ⟨rfl,rfl⟩;clear ax;go_wp2_with fail;by_cases aC:s.length+w.length<=128
 .refine (xI aO ab P.2.1 bb bP bQ aC).mono ?_;rintro d R ⟨rfl,a0,ap,al,E,Q⟩;have ac:=E _ _ (λa=>p.1 (zDa.1 a)) O;have ae:=E _ _ (λa=>p.2.2.2.2.1 (zDa.1 a).symm) P.1;have a2:=P.2.2.but E Q (λg i a=>(p.2.2.2.2.2.2.1 g i).2.1 (zDa.1 a)) bS;obtain ⟨cI,cq,cy,d6,I⟩:=ap;obtain ⟨W,cC,rfl,ai⟩:=I.rd.ex oM;have bH:=I.rd.c1;have bF:=I.rd.c0;have cP:=I.rd.a.lt;have cM:=ai.lt;have bK:=ai.frozen (b*8+1);obtain ⟨_,aK,_⟩:=I.rd.at ac;obtain ⟨_,aq,_⟩:=I.rd.at (show At8 a0 e [_,_,_,_,_,_,_,_] from ae);obtain ⟨A,N⟩:=eqx m.num;have ch:R.cell? ⟨W,e*8+1,none⟩=some (.int .i64 A):=(by rw [<-N];exact aq);have b3:=I.put (b*8+1) (.int .i64 A);have D:LK t [] R (R.setCell ⟨W,b*8+1,none⟩ (.int .i64 A)):=LK.set ai dC (OwnF.at I.own) _;have z:ButL [b] a0 (a0.set (b*8+1) (.int .i64 A)):=(But8.set b a0 (j:=1) oM _).l zs;have am:=ac.set (j:=1) oM (.int .i64 A);have bj:=al.but z D (λg i a=>p.1 (by have K:=zDa.1 a;have a3:g=r:=zDa.1 i;rw [<-K,a3])) zs;have aT:=a2.but z D (λg i a=>(p.2.2.2.2.2.2.1 g i).1 (zDa.1 a)) zs;have aa:Below (R.setCell ⟨W,b*8+1,none⟩ (.int .i64 A)).heap.size (R.setCell ⟨W,b*8+1,none⟩ (.int .i64 A)) (R.setCell ⟨W,b*8+1,none⟩ (.int .i64 A)).drew:=bR.drew;have a6:=b3.below aa;have an:=D.trans (LK.below (F:=t) (bl:= []) aa);have aI:=bj.below aa;have aw:=aT.below aa;obtain ⟨af,aH⟩:=eqx ((R.setCell ⟨W,b*8+1,none⟩ (.int .i64 A)).drew);rw [aH] at a6 an aI aw;have a8:Below af.heap.size af (af.alloc (.cells #[(q:Int),(e:Int)] 3)):=bR.alloc nL _;have b4:=a6.below a8;have bg:=kd af 3 #[(q:Int),(e:Int)];have cu:=a6.rd.c0;have cQ:=a6.rd.a.lt;have cV:o.heap.size<=af.heap.size:=zAk a1.keep.size (zAk Q.keep.size an.keep.size);have bV:=aBn b4 (λV C=>ba V (by rw [sZ0] at C;omega)) (be q (by simp [c.2,LT.nums])) p.2.2.2.2.2.2.2.1 (be e (by simp [c.2,LT.nums])) p.2.2.2.2.2.2.2.2 p.2.2.2.2.2.1 bg bZ;have bB:=(aI.below a8);have bs:=(aw.below a8);have bE:=((E.mono (l':=b::(f.nums++n.nums)) (by simp [c.1,LT.nums])).trans (z.mono zs));have bD:=((a1.mono (bl':=f.blks++n.blks) zs).trans ((Q.mono (bl':=f.blks++n.blks) (λx _ T=>by
   rw [c.1,c.2];simp only [zDf,zDh,or_false] at T;rcases T with rfl | rfl <;> simp [LT.blks])).trans ((an.mono zs).trans (LK.below a8))))
  obtain ⟨av,bz⟩:=hqq2 N aH;clear I b3 a6 b4 bg al bj aI a2 aT aw ac ae E z Q D an a8 aa aS aU aW aX ai N aH aq;go_wp2_with fail
  go_region
  rw [bz.out];clear bH bF bK aK ch;go_wp2_with fail;refine bV.mono ?_;rintro d cc ⟨rfl,b5,ao⟩
  have au:=(show qS t H y b f n v u U J o (.returned (.int .i64 b)) cc from
   ⟨_,u++ [q,e],_,⟨_,_,_,_,b5⟩,.inr rfl,bE,bD.trans (ao.mono zs),.inr ⟨.lf r B (s++w),m,rfl,by rw [aN.out,zBx aC];rfl,⟨_,_,_,_,_,by rw [av.out];exact am⟩,bB.but (ButL.refl [] _) ao zs zs,bs.but (ButL.refl [] _) ao zs zs,by
    rw [c.1,c.2,zDc];intro aL;simp only [LT.nums,zDg,zCc,zEz];omega,by
    have a9:=aP;rw [c.1,c.2] at a9;refine a9.sublist ?_
    simp [LT.blks],λaL ak=>.inl (by
     rw [c.1,c.2];simp only [LT.blks,zCp,zDa] at ak⊢;rcases ak with d | d <;> simp [d])⟩⟩)
  clear b5 ao;go_wp2_with fail;go_ret;exact au
 .refine (aBk aO ab P.2.1 bb p.2.2.2.1 (λV C=>ba V (zAk a1.keep.size C)) oM bN bO).mono ?_;rintro d R ⟨rfl,a0,ay,ag,ap,al,aJ,bL,cD,cE,E,Q⟩;have bY:b∉ [r,q]:=λa=>by simp only [zDf,zDh,or_false] at a;rcases a with a | a;exact p.1 a;exact p.2.1 a
  have c5:e∉ [r,q]:=λa=>by simp only [zDf,zDh,or_false] at a;rcases a with a | a;exact p.2.2.2.2.1 a.symm;exact p.2.2.2.2.2.1 a.symm
  have ac:=E _ _ bY O;have ae:=E _ _ c5 P.1;have a2:=P.2.2.but E Q (λg i a=>by
   have:=p.2.2.2.2.2.2.1 g i;simp only [zDf,zDh,or_false] at a;rcases a with a | a;exact this.2.1 a
   .exact this.2.2.1 a) zs
  obtain ⟨Y,aj⟩:=eqx ((s++w).drop ((s.length+w.length)/ 2));rw [aj] at aJ;have c4:Y.length<=256:=(by rw [<-aj,zAw,zAi];omega);have c2:Y.count true<=Y.length:=zBv;obtain ⟨A,N⟩:=eqx m.num;obtain ⟨cr,b1,cs,ct,d1,ar⟩:=a2.R;have sC:m.L:=(by have:=c6;rw [c.2] at this;exact this.r);obtain ⟨c8,c9⟩:=sC;have c1:=m.on_le;rw [N] at ar;have bU:=kG (k:=e) ap (by rw [<-N];exact ae) (show At8 a0 q (xA (-1) (-1) 0 Y.length (Y.count true) 0 0 (some ⟨ag,0,none⟩)) from aJ.1) ar oM oM oM oM oM oM;have bC:=(a1.trans Q);obtain ⟨bA,av⟩:=hqq2 aj N;have cU:=a1.keep.size;clear Q ap ae ar aj N c8 c9 c1 c4 c2 aS aU aW aX;go_wp2_with fail;refine bU.mono ?_;rintro d cb ⟨rfl,cg,bq,am,z,D,_⟩
  have au:=(show qS t H y b f n v u U J o (.returned (.int .i64 b)) cb from
   ⟨cg,u,_,bq,.inr rfl,(E.mono (l':=b::(f.nums++n.nums)) (λg i=>by
    rw [c.1,c.2];simp only [zDf,zDh,or_false] at i
    rcases i with rfl | rfl <;> simp [LT.nums])).trans ((z.l (l:=b::(f.nums++n.nums)) (by simp [c.2,LT.nums]))),(bC.trans D).mono zs,.inr ⟨.lf r ay _,.nd e (.lf q ag Y) m,rfl,by rw [aN.out,zBw aC,<-bA.out];rfl,⟨_,_,_,_,_,z _ _ p.2.2.1 ac⟩,al.but (z.l (l:= [e]) zs) D (λg i a=>p.2.2.2.2.1 (by have K:=zDa.1 a;have a3:g=r:=zDa.1 i;rw [<-K,a3])) zs,⟨by
     have K:=am;rw [<-av.out] at K;exact K,aJ.but (z.l (l:= [e]) zs) D (λg i a=>p.2.2.2.2.2.1 (by have K:=zDa.1 a;have a3:g=q:=zDa.1 i;rw [<-K,a3])) zs,a2.but (z.l (l:= [e]) zs) D (λg i a=>(p.2.2.2.2.2.2.1 g i).2.2.2 (zDa.1 a)) zs⟩,by rw [c.1,c.2];exact .refl _,by
     have a9:=aP;rw [c.1,c.2] at a9;have X:(B::L::m.blks).Nodup:=a9;rw [zDe,zDe] at X;have b6:∀x,x∈m.blks->x < o.heap.size:=λx T=>by obtain ⟨cz,bT⟩:=bw.a x T;exact bT.lt
     show (ay::ag::m.blks).Nodup;rw [zDe,zDe];refine ⟨λa=>?_,λa=>?_,X.2.2⟩;rcases zDf.1 a with a | a;exact bL a;have:=b6 _ a;omega
     .have:=b6 _ a;omega,λaL ak=>by
     rw [c.1,c.2];have bh:aL∈ay::ag::m.blks:=ak;simp only [zDf] at bh;rcases bh with d | d | d;exact .inr oM;exact .inr oM
     .exact .inl (by simp [LT.blks,d])⟩⟩)
  clear bq am z D;go_wp2_with fail;go_ret;exact au
def aM2 {t L B c} (f K b n q) {v w} (i:LT) {e o:LT} (J:e=.nd f i (.lf n q v)) (er:o=.lf b K w) {x u a1 O s} (bo:TS s t L B x u a1 O) (V:Nd x c e.num o.num) (aU:e.In s x) (bA:o.In s x) (T:(e.blks++o.blks).Nodup) (aO:∀y,y∈e.blks++o.blks->t y) (bv:∀a3,s.heap.size<=a3->t a3) (aR:(c::(e.nums++o.nums)++u).Nodup) (bz:∀m,m∈c::(e.nums++o.nums)++u->m < B) (cH:u.length<=1000000) (cq:v.length<=128) (cr:w.length<=128) (bu:w.length < 32) (cN:e.L):
 Calls prog 243 #[L,(c:Int)] s (qS t L B c e o x u a1 O s):=by
 have bB:=aU;obtain ⟨dD,dT,dU,dR,dS,V⟩:=V;obtain ⟨dQ,aV⟩:=eqx e.num;obtain ⟨dW,aY⟩:=eqx o.num;rw [aV,aY] at V;have bp:=bo;obtain ⟨dx,de,dl,dX,Z⟩:=bo;obtain ⟨dB,dr,rfl,bs⟩:=Z.rd.ex (zj (V.lt Z.rd.len));have ca:=Z.rd.c1;have cE:=Z.rd.a.lt;have cB:=bs.lt;have dL:(c:Int) < B:=zj (V.lt Z.rd.len)
 obtain ⟨dc,b9,_⟩:=Z.rd.at V;obtain ⟨be,bf⟩:=hqq2 aV aY;clear Z bs aV aY;go_enter func243,ntmps243;go_wp2_with fail;go_quiet (fail);have af:Below s.heap.size s (s.drewN nq):=km (kg s.heap.size s) nq;have ac:=bp.below af;have cP:LK t [] s (s.drewN nq):=LK.below af;have bE:=aU.below af;have bF:=bA.below af;clear ca dc b9 bp aU bA cE cB;generalize s.drewN nq=w1 at*
 clear af;have an:=jS t L B e x u a1 O w1 ac bE;rw [be.out] at an;have ao:=jS t L B o x u a1 O w1 ac bF;rw [bf.out] at ao;have ag:(i.blks++ [q,K]).Nodup:=by rw [J,er] at T;have ar:((i.blks++ [q])++ [K]).Nodup:=T;rwa [zCo] at ar
 have bw:K≠q:=λd=>by rw [zDb] at ag;have:=ag.2.1;rw [d] at this;simp at this
 have cv:∀y,y∈i.blks->y∉ [q,K]:=λy a4 a=>by rw [zDb] at ag;exact ag.2.2 y a4 y a rfl
 have cs:t q:=aO q (by simp [J,LT.blks]);have ct:t K:=aO K (by simp [er,LT.blks]);have bx:Tr.mend e.er o.er=if v.length+w.length<=128 then .nd i.er (.lf (v++w)) else .nd (.nd i.er (.lf ((v++w).take ((v.length+w.length)/ 2)))) (.lf ((v++w).drop ((v.length+w.length)/ 2))):=by rw [J,er];show Tr.mend (.nd i.er (.lf v)) (.lf w)=_;simp only [Tr.mend];rw [zBx bu]
 have p:c≠f/\c≠n/\c≠b/\n≠b/\b≠f/\n≠f/\(∀m,m∈i.nums->m≠c/\m≠f/\m≠n/\m≠b)/\n∉u/\f∉u:=by
  rw [J,er] at aR;have cy:(c::((f::(i.nums++ [n]))++ [b])++u).Nodup:=aR;have cJ:(c::((f::(i.nums++ [n]))++ [b])++u).Perm (c::f::b::n::(i.nums++u)):=by rw [zDc];intro a8;simp only [zDg,zCc,zEz];omega
  have aS:=cJ.nodup_iff.1 cy;rw [zDe,zDe,zDe,zDe] at aS;simp only [zDf,zCp,not_or] at aS;obtain ⟨⟨b5,b6,b7,b8,bQ⟩,⟨d8,d9,da,db⟩,⟨b9,dd,e3⟩,⟨d0,a7⟩,_⟩:=aS;exact ⟨b5,b7,b6,λd=>b9 d.symm,λd=>d8 d.symm,λd=>d9 d.symm,λm r=>⟨λd=>b8 (d ▸ r),λd=>da (d ▸ r),λd=>d0 (d ▸ r),λd=>dd (d ▸ r)⟩,a7,db⟩
 obtain ⟨g,ba⟩:=hqq2 (And.intro J er) bx;have bd:=T;have bX:=(show i.In s x by have:=bB;rw [J] at this;exact this.2.1);have ce:e.J=false:=by rw [J];rfl
 have cf:o.J=true:=by rw [er];exact zBz bu
 have bI:e.num=f:=by rw [J];rfl
 have bJ:o.num=b:=by rw [er];rfl
 have bK:=be.out;have bL:=bf.out;rw [bI] at bK;rw [bJ] at bL;subst bK bL;rw [ce] at an;rw [cf] at ao;clear J er aR bx aO T bI bJ bB ag;have bV:=(show (LT.nd f i (.lf n q v)).In w1 x by rw [<-g.1];exact bE);have bW:=(show (LT.lf b K w).In w1 x by rw [<-g.2];exact bF);go_wp2_with fail;refine an.mono ?_;rintro d wf ⟨rfl,rfl⟩;go_wp2_with fail;refine ao.mono ?_;rintro d d3 ⟨rfl,rfl⟩;clear an ao;have a7:=ac.ab (wrap64 (O+2));have aj:=ac.b4 3 (.int .i64 (wrap64 (O+2)));obtain ⟨dy,df,dm,dY,aq⟩:=ac;have cd:=aq.rd.c3;have cg:=aq.rd.a.frozen 3;have dG:=aq.rd.a.lt;obtain ⟨bP,aZ⟩:=eqx (d3.setCell ⟨L,3,none⟩ (.int .i64 (wrap64 (O+2))));rw [aZ] at a7 aj;have M:=bV.but (ButL.refl [] _) aj zs zs;have ah:=bW.but (ButL.refl [] _) aj zs zs;have bc:=a7;have aL:=jS t L B _ x u a1 _ bP a7 M;rw [show (LT.nd f i (.lf n q v)).J=false from rfl] at aL;obtain ⟨dz,dg,dn,dZ,Q⟩:=a7;obtain ⟨cp,ds,rfl,bt⟩:=Q.rd.ex oM;have bg:=Q.rd.c1;have dK:(f:Int) < B:=zj ((M.1).lt Q.rd.len)
 have dN:(b:Int) < B:=zj ((ah.1).lt Q.rd.len)
 obtain ⟨_,bk,_,_,_,_,_,bj⟩:=Q.rd.at (show At8 x f [_,_,_,_,_,_,_,_] from M.1);have bm:bP.cell? ⟨cp,f*8+1,none⟩=some (.int .i64 n):=bk;obtain ⟨_,_,_,_,_,_,_,bn⟩:=Q.rd.at (show At8 x b [_,_,_,_,_,_,_,_] from ah.1);have dH:=Q.rd.a.lt;have dE:=bt.lt;have am:=(cP.trans aj);have c1:=lhd aZ;clear aj aq aZ Q bt bk;go_upto_region 12 with fail;rw [c1.out];clear cd cg;go_wp2_with fail;refine aL.mono ?_;rintro d e1 ⟨rfl,rfl⟩;clear aL;go_wp2_with fail;by_cases aT:v.length+w.length<=128
 .refine (xI bc M.2.2 ah bw cs ct aT).mono ?_;rintro d Y ⟨rfl,a2,aC,X,H,a0⟩;have ai:=H _ _ (λa=>p.2.1 (zDa.1 a)) V;have bG:=H _ _ (λa=>p.2.2.2.2.2.1 (zDa.1 a).symm) M.1;have ak:=H _ _ (λa=>p.2.2.2.1 (zDa.1 a).symm) ah.1;have ab:=M.2.1.but H a0 (λm r a=>(p.2.2.2.2.2.2.1 m r).2.2.1 (zDa.1 a)) cv;obtain ⟨A,W⟩:=eqx (v++w);rw [W] at X;obtain ⟨ay,aW⟩:=eqx A.length;obtain ⟨az,aX⟩:=eqx (A.count true);have bH:At8 a2 n (lH (ay:Int) (az:Int) q):=(by rw [<-aW,<-aX];exact X.1);obtain ⟨dA,dh,dp,e0,R⟩:=aC;obtain ⟨z,dt,rfl,au⟩:=R.rd.ex oM;have cb:=R.rd.c1;have dI:=R.rd.a.lt;have dF:=au.lt;have aM:=au.frozen (c*8);obtain ⟨b4,_⟩:=R.rd.at ai;obtain ⟨bS,_⟩:=R.rd.at (show At8 a2 f [_,_,_,_,_,_,_,_] from bG);obtain ⟨I,U⟩:=eqx i.num;have d7:Y.cell? ⟨z,f*8,none⟩=some (.int .i64 I):=(by rw [<-U];exact bS);have bq:=R.put (c*8) (.int .i64 I);have N:LK t [] Y (Y.setCell ⟨z,c*8,none⟩ (.int .i64 I)):=LK.set au dC (OwnF.at R.own) _;have C:ButL [c] a2 (a2.set (c*8) (.int .i64 I)):=(But8.set c a2 (j:=0) oM _).l zs;have ax:=ai.set (j:=0) oM (.int .i64 I);have b2:=C _ _ (λa=>p.2.1 (zDa.1 a).symm) bH;have bN:=C _ _ (λa=>p.2.2.1 (zDa.1 a).symm) ak;have bh:=ab.but C N (λm r a=>(p.2.2.2.2.2.2.1 m r).1 (zDa.1 a)) zs;have E:Below (Y.setCell ⟨z,c*8,none⟩ (.int .i64 I)).heap.size (Y.setCell ⟨z,c*8,none⟩ (.int .i64 I)) (Y.setCell ⟨z,c*8,none⟩ (.int .i64 I)).drew:=bR.drew;have S:=bq.below E;have aA:=N.trans (LK.below (F:=t) (bl:= []) E);have aJ:=bh.below E;have aa:=aA.a q _ zs X.2;obtain ⟨al,b0⟩:=eqx ((Y.setCell ⟨z,c*8,none⟩ (.int .i64 I)).drew);rw [b0] at S aA aJ aa;obtain ⟨du,av⟩:=fE S.rd.row;have cc:=S.rd.c1;have cF:=S.rd.a.lt;have cC:=av.lt;have dM:(n:Int) < B:=(zj (b2.lt S.rd.len));obtain ⟨cQ,cR,cS,cT,cU,cV,cW,cX⟩:=S.rd.at b2;have bY:=((H.mono (l':=c::(e.nums++o.nums)) (by simp [g.1,LT.nums])).trans (C.mono zs));have bb:=((am.mono (bl':=e.blks++o.blks) zs).trans ((a0.mono (bl':=e.blks++o.blks) (λy _ a4=>by
   rw [g.1,g.2];simp only [zDf,zDh,or_false] at a4;rcases a4 with rfl | rfl <;> simp [LT.blks])).trans (aA.mono zs)))
  obtain ⟨aG,c2,aH,c4,c5⟩:=hqq5 U b0 W aW aX;clear R bq X ab bh ai ak bG bH b2 H C a0 N aA E bg bj bm bn au U b0 bS W aW aX;go_wp2_with fail
  go_region
  rw [c2.out];clear cb aM b4 d7;go_wp2_with fail
  go_still_tail 13,kR
  change wpList _ _ _ _ _ al.drew;have E:Below al.heap.size al al.drew:=bR.drew;have aQ:=S.below E;have G:=av.below E av.lt;have bi:=aJ.below E;have aI:=aa.below E aa.lt;have bM:=bb.trans (LK.below (F:=t) (bl:=e.blks++o.blks) E);clear cc cQ cR cS cT cU cV cW cX cF cC E S aJ aa bb av;generalize al.drew=w7 at*
  have cD:=G.lt;obtain ⟨b4,b5,b6,b7,b8,bQ,d4,d5⟩:=aQ.rd.at (show At8 _ b [_,_,_,_,_,_,_,_] from bN);have ch:=G.frozen (b*8);have ci:=G.frozen (b*8+1);have cj:=G.frozen (b*8+2);have ck:=G.frozen (b*8+3);have aM:=G.frozen (b*8+4);have cl:=G.frozen (b*8+5);have cm:=G.frozen (b*8+6);have cn:=G.frozen (b*8+7);obtain ⟨ad,cu,br,a5⟩:=aQ.c9 G bN (-1) (-1) 0 (ay:Int) (az:Int) 0 0 (some ⟨q,0,none⟩);obtain ⟨a9,aP⟩:=eqx (((((((((w7.setCell ⟨z,b*8,none⟩ (.int .i64 (-1))).setCell ⟨z,b*8+1,none⟩ (.int .i64 (-1))).setCell ⟨z,b*8+2,none⟩ (.int .i64 0)).setCell ⟨z,b*8+3,none⟩ (.int .i64 ay)).setCell ⟨z,b*8+4,none⟩ (.int .i64 az)).setCell ⟨z,b*8+5,none⟩ (.int .i64 0)).setCell ⟨z,b*8+6,none⟩ (.int .i64 0)).setCell ⟨z,b*8+7,none⟩ (.pointer (some q))));rw [aP] at ad a5;have aD:=br.l (l:= [b]) zs;have D:Below a9.heap.size a9 (a9.alloc (.cells #[(n:Int),(f:Int)] 3)):=bR.alloc nL _;have ae:=ad.below D;have bC:=kd a9 3 #[(n:Int),(f:Int)];have dk:=ad.rd.c0;have dJ:=ad.rd.a.lt;have b3:=bM.trans (a5.mono (bl':=e.blks++o.blks) zs);have dP:s.heap.size<=a9.heap.size:=b3.keep.size;have cA:=aBn ae (λa3 T=>bv a3 (by rw [sZ0] at T;omega)) (bz n (by simp [g.1,LT.nums])) p.2.2.2.2.2.2.2.1 (bz f (by simp [g.1,LT.nums])) p.2.2.2.2.2.2.2.2 p.2.2.2.2.2.1 bC cH;have bU:=((bi.but aD a5 (λm r a=>(p.2.2.2.2.2.2.1 m r).2.2.2 (zDa.1 a)) zs).below D);have bT:=((a5.a q _ zs aI).below D (a5.a q _ zs aI).lt);have c6:=(aD _ _ (λa=>p.2.2.1 (zDa.1 a)) ax);have c9:=(bY.trans (aD.mono (l':=c::(e.nums++o.nums)) (by simp [g.2,LT.nums])));have c8:=(b3.trans (LK.below D));have bZ:=lhd aP;clear aQ G ad br a5 ae bC b3 bM bi aI aD aP D;go_upto_region 9 with fail;rw [bZ.out];clear b4 b5 b6 b7 b8 bQ d4 d5 ch ci cj ck aM cl cm cn cD;go_wp2_with fail;refine cA.mono ?_;rintro d d2 ⟨rfl,ae,aB⟩
  have aF:=(show qS t L B c e o x u a1 O s (.returned (.int .i64 c)) d2 from
   ⟨_,u++ [n,f],_,⟨_,_,_,_,ae⟩,.inr rfl,c9,c8.trans (aB.mono zs),.inr ⟨i,.lf b q A,rfl,by rw [ba.out,zBx aT,aH.out];rfl,⟨_,_,_,_,_,by rw [aG.out];exact c6⟩,bU.but (ButL.refl [] _) aB zs zs,⟨by
    have P:(LT.lf b q A).cells=lH (ay:Int) (az:Int) q:=(by show lH ((A.length:Nat):Int) ((A.count true:Nat):Int) q=_;rw [c4.out,c5.out]);rw [P];exact cu,aB.a q _ zs bT⟩,by
    rw [g.1,g.2,zDc];intro a8;simp only [LT.nums,zDg,zCc,zEz];omega,by
    have D:=bd;rw [g.1,g.2] at D;refine D.sublist ?_
    simp [LT.blks],λa8 a6=>.inl (by
     rw [g.1,g.2];simp only [LT.blks,zCp,zDa] at a6⊢;rcases a6 with d | d <;> simp [d])⟩⟩)
  clear ae aB;go_wp2_with fail;go_ret;exact aF
 .refine (aBk bc M.2.2 ah bw p.2.2.2.1 (λa3 T=>bv a3 (zAk am.keep.size T)) oM cq cr).mono ?_;rintro d Y ⟨rfl,a2,ap,aN,aC,X,cO,co,dv,dw,H,a0⟩;have cG:c∉ [n,b]:=λa=>by simp only [zDf,zDh,or_false] at a;rcases a with a | a;exact p.2.1 a;exact p.2.2.1 a
  have cM:f∉ [n,b]:=λa=>by simp only [zDf,zDh,or_false] at a;rcases a with a | a;exact p.2.2.2.2.2.1 a.symm;exact p.2.2.2.2.1 a.symm
  have ai:=H _ _ cG V;have ak:=H _ _ cM M.1;have ab:=M.2.1.but H a0 (λm r a=>by
   have:=p.2.2.2.2.2.2.1 m r;simp only [zDf,zDh,or_false] at a;rcases a with a | a;exact this.2.2.1 a
   .exact this.2.2.2 a) zs
  obtain ⟨A,W⟩:=eqx ((v++w).take ((v.length+w.length)/ 2));rw [W] at X;have cL:A.length<=256:=(by rw [<-W,zAj,zAi];omega);have cK:A.count true<=A.length:=zBv;obtain ⟨I,U⟩:=eqx i.num;obtain ⟨di,b1,dj,aa,dV,aE⟩:=ab.R;have sC:i.L:=(by have:=cN;rw [g.1] at this;exact this.l);obtain ⟨cY,cZ⟩:=sC;have cI:=i.on_le;rw [U] at aE;have cz:=kG (k:=f) aC (by rw [<-U];exact ak) aE (show At8 a2 n (xA (-1) (-1) 0 A.length (A.count true) 0 0 (some ⟨ap,0,none⟩)) from X.1) oM oM oM oM oM oM;have c7:=(am.trans a0);obtain ⟨aH,aG⟩:=hqq2 W U;have dO:=am.keep.size;clear a0 aC ak aE W U cY cZ cI cL cK bg bj bm bn;go_wp2_with fail;refine cz.mono ?_;rintro d d1 ⟨rfl,d6,bO,ax,C,N,_⟩
  have aF:=(show qS t L B c e o x u a1 O s (.returned (.int .i64 c)) d1 from
   ⟨d6,u,_,bO,.inr rfl,(H.mono (l':=c::(e.nums++o.nums)) (λm r=>by
    rw [g.1,g.2];simp only [zDf,zDh,or_false] at r
    rcases r with rfl | rfl <;> simp [LT.nums])).trans ((C.l (l:=c::(e.nums++o.nums)) (by simp [g.1,LT.nums]))),(c7.trans N).mono zs,.inr ⟨.nd f i (.lf n ap A),.lf b aN _,rfl,by rw [ba.out,zBw aT,<-aH.out];rfl,⟨_,_,_,_,_,C _ _ p.1 ai⟩,⟨by
     have P:=ax;rw [<-aG.out] at P;exact P,ab.but (C.l (l:= [f]) zs) N (λm r a=>(p.2.2.2.2.2.2.1 m r).2.1 (zDa.1 a)) zs,X.but (C.l (l:= [f]) zs) N (λm r a=>p.2.2.2.2.2.1 (by have P:=zDa.1 a;have aK:m=n:=zDa.1 r;rw [<-P,aK])) zs⟩,cO.but (C.l (l:= [f]) zs) N (λm r a=>p.2.2.2.2.1 (by have P:=zDa.1 a;have aK:m=b:=zDa.1 r;rw [<-P,aK])) zs,by rw [g.1,g.2];exact .refl _,by
     have D:=bd;rw [g.1,g.2] at D;have ar:((i.blks++ [q])++ [K]).Nodup:=D;rw [zCo,zDb] at ar;have cw:∀y,y∈i.blks->y < s.heap.size:=λy a4=>by obtain ⟨dq,cx⟩:=bX.a y a4;exact cx.lt
     show ((i.blks++ [ap])++ [aN]).Nodup;rw [zCo,zDb];refine ⟨ar.1,by simp [co],λa8 a6 e2 aw d=>?_⟩;have:=cw a8 a6;simp only [zFp,zDf,zDh,or_false] at aw;rcases aw with aw | aw <;> omega,λa8 a6=>by
     rw [g.1,g.2];have bD:a8∈(i.blks++ [ap])++ [aN]:=a6;simp only [zCp,zDa] at bD;rcases bD with (d | d)| d;exact .inl (by simp [LT.blks,d]);exact .inr oM
     .exact .inr oM⟩⟩)
  clear bO ax C N;go_wp2_with fail;go_ret;exact aF
def aFH {y A I u} {b a:LT} {x s N O r} (k:TS r y A I x s N O) (m:Nd x u b.num a.num) (n:b.In r x) (o:a.In r x) (l:(b.blks++a.blks).Nodup) (B:∀K,K∈b.blks++a.blks->y K) (D:∀J,r.heap.size<=J->y J) (C:(u::(b.nums++a.nums)++s).Nodup) (E:∀M,M∈u::(b.nums++a.nums)++s->M < I) (F:s.length<=1000000) (G:b.er.Le) (H:a.er.Le) (T:b.L) (U:a.L) (R:b.J=true->a.ht<=1) (S:a.J=true->b.ht<=1):
 Calls prog 243 #[A,(u:Int)] r (qS y A I u b a x s N O r):=by
 cases b with
 | lf v L i=>
  cases a with
  | lf p z f=>
   by_cases e:i.length < 32∨f.length < 32;exact aM4 v L p z rfl rfl k m n o l B D C E F G H e;refine rL k m n o l (zBy oM) (zBy oM) ?_;show Tr.mend (.lf i) (.lf f)=_;simp only [Tr.mend];rw [zBw e];rfl
  | nd p d c=>
   by_cases e:i.length < 32
   .have P:=R (zBz e);cases d with
    | lf w t f=>exact aM3 v L p w t c rfl rfl k m n o l B D C E F G H.1 e U
    | nd j g q=>
     have Q:(LT.nd p (.nd j g q) c).ht=max (max g.ht q.ht+1) c.ht+1:=rfl;omega
   .refine rL k m n o l (zBy oM) rfl ?_;show Tr.mend (.lf i) (.nd d.er c.er)=_;cases d with
    | lf w t f=>
     show Tr.mend (.lf i) (.nd (.lf f) c.er)=_;simp only [Tr.mend];rw [zBw e];rfl
    | nd j g q=>rfl
 | nd v d c=>
  cases a with
  | lf p z f=>
   by_cases e:f.length < 32
   .have P:=S (zBz e);cases c with
    | lf w t i=>exact aM2 v z p w t d rfl rfl k m n o l B D C E F G.2 H e T
    | nd j g q=>
     have Q:(LT.nd v d (.nd j g q)).ht=max d.ht (max g.ht q.ht+1)+1:=rfl;omega
   .refine rL k m n o l rfl (zBy oM) ?_;show Tr.mend (.nd d.er c.er) (.lf f)=_;cases c with
    | lf w t i=>
     show Tr.mend (.nd d.er (.lf i)) (.lf f)=_;simp only [Tr.mend];rw [zBw e];rfl
    | nd j g q=>rfl
  | nd p j g=>
   refine rL k m n o l rfl rfl ?_;show Tr.mend (.nd d.er c.er) (.nd j.er g.er)=_;cases c <;> cases j <;> rfl
def aK2 {a b:Nat} (c:a≠b):((a:Int)==b)=false:=by rw [zCb];omega
def aJ9 {a b:List Nat} {c d:Nat} (f:a.length=d) (g:b.length=d) (e:a.take c=b.take c) (i:d<=c):a=b:=by
 rw [zAg oM,zAg oM] at e;exact e
def xT {w x:Option Addr} {b:Nat} (D:Nat) {g:Nat} (E:Nat) {B C:Nat} {c d:List Nat} {e:World} (y:Rd e B 1 w b (c.map sv)) (z:Rd e C 1 x g (d.map sv)) (P:b<=1099511627776) (Q:g<=1099511627776):
 Calls prog 22 #[.slice w b D,.slice x g E] e λH L=>H=.returned (.bool (decide (c=d)))/\Below e.heap.size e L:=by
 have j:c.length=b:=by simpa using y.1
 have k:d.length=g:=by simpa using z.1
 by_cases m:b=g
 .subst m;go_enter func22,ntmps22;go_wp2;go_loopw [5] (λt wr=>∃a:Nat,a<=b/\t=.int .i64 a/\c.take a=d.take a/\∃J,wr=e.drewN J) (λt _=>b -(intOf t).toNat)
  case atStart=>exact ⟨0,zAp _,rfl,rfl,0,rfl⟩
  case round=>
   obtain ⟨a,O,rfl,n,R,rfl⟩:=hrel;by_cases A:a < b
   .obtain ⟨u,q⟩:∃u,c[a]?=some u:=⟨c[a]'(zj j),zAa (zj j)⟩;obtain ⟨v,s⟩:∃v,d[a]?=some v:=⟨d[a]'(zj k),zAa (zj k)⟩;obtain ⟨b1,S,U,rfl,M,o,F⟩:=y.get A;obtain ⟨b2,T,V,rfl,N,p,G⟩:=z.get A;rw [zAf,q] at o;rw [zAf,s] at p;simp only [zEq,zEB] at o p;subst o;subst p;unfold sv at F G;by_cases r:u=v
    .subst r;go_wp2;go_quiet (fail);go_wp2;go_roundw
     case rel=>refine ⟨a+1,by omega,by go_num,?_,_,rfl⟩;rw [zAv,zAv,n,q,s]
     case measure=>exact zr
    .have K:=aK2 r
     have f:c≠d:=λl=>r (by
      have i:=q;rw [l,s] at i;injection i with i;exact i.symm)
     go_wp2;go_quiet (fail);go_wp2;go_ret;exact ⟨bH (by rw [zBy f]),km (km bR _) _⟩
   .have I:b<=a:=oM;have f:=(aJ9 j k n I);clear n;go_wp2;go_ret;exact ⟨bH (by rw [zBz f]),km bR _⟩
 .have f:c≠d:=λl=>m (by rw [<-j,<-k,l]);have K:=aK2 m;go_enter func22,ntmps22;go_wp2;go_ret;exact ⟨bH (by rw [zBy f]),kg _ _⟩
end Go.Proofs.YtlghmcogeipojaaGreatDoor
