/- Lemmas of the walk. Conditions: each its own. -/
import Derived.Test.YtknjfpcdhdmghaaGreatDoorPt10
import Derived.Test.YtknjfpcdhdmghaaGreatDoorPt14
set_option linter.all false
set_option maxRecDepth 100000
set_option maxHeartbeats 4000000
open Go.Proofs.Tryz
namespace Go.Proofs.YtknjfpcdhdmghaaGreatDoor
section
open Go.RowKit
def aM (a:List Nat) (lv b:Nat):List Bool:=(a.filter λc=>bF c lv==b).map (iF · lv)
def rG (a) {lv} (e:lv < 9):bF a (lv+1)=2*bF a lv+(if iF a lv then 1 else 0):=by
 unfold bF iF;have c:9 -(lv+1)=8 - lv:=oM;have d:9 - lv=(8 - lv)+1:=oM;rw [c,d,zEM,<-zFg];generalize a / 2 ^(8 - lv)=q;by_cases b:q % 2=1;simp [b];omega;simp [b];omega
def rF {s} (a:s < 257):bF s 0=0:=by
 unfold bF;exact zGq oM
def rH (a):bF a 9=a:=by
 unfold bF;simp
def nY {s} (lv) (a:s < 257) (b:lv<=9):bF s lv < 2 ^ lv:=by
 unfold bF;rw [zEP (Nat.pos_of_ne_zero zs),<-Nat.pow_add,show lv+(9 - lv)=9 by omega];omega
def aHc (d lv a) (i:lv < 9):(aM d lv (bF a lv)).count (iF a lv)=d.countP (λk=>bF k (lv+1)==bF a (lv+1)):=by
 induction d with
 | nil=>rfl
 | cons b n j=>
  have e:=rG b i;have f:=rG a i;unfold aM at j⊢;rw [zBn,<-j,zEu];by_cases c:bF b lv=bF a lv
  .rw [zBx (by simp [c]),zEJ,zDg];by_cases g:iF b lv=iF a lv
   .have:bF b (lv+1)=bF a (lv+1):=(by rw [e,f,c,g]);simp [g,this]
   .have:bF b (lv+1)≠bF a (lv+1):=(by rw [e,f,c];cases l:iF b lv <;> cases m:iF a lv <;> simp_all);simp [g,this]
  .rw [zBw (by simp [c])];have:bF b (lv+1)≠bF a (lv+1):=(by rw [e,f];cases iF b lv <;> cases iF a lv <;> simp <;> omega);simp [this]
def aJq (c lv b a):(aM c lv b).take ((c.take a).countP λi=>bF i lv==b)=aM (c.take a) lv b:=by
 induction c generalizing a with
 | nil=>simp [aM]
 | cons e j g=>
  rcases a with _ | a
  .simp [aM]
  .have:=g a;unfold aM at this⊢;rw [zDS,zBn,zEu,zEu];by_cases d:bF e lv=b
   .simp only [d,beq_self_eq_true,if_true,zEJ,zDS,this]
   .have f:(bF e lv==b)=false:=(by simp [d]);simp only [f,zEK,if_false,zBq,this]
def iX (a lv b):(aM a lv b).length=a.countP λc=>bF c lv==b:=by
 unfold aM;rw [zBc,zFk]
def gO (a:List Nat) (b d lv:Nat):Nat:=(a.take b).countP λc=>bF c lv==bF d lv
def nG {L k s0} (e:k<=L.length) (b:∀a∈L,a < 257) (c:s0 < 257):gO L k s0 0=k:=by
 unfold gO;rw [zDJ.2 (λa d=>by
  have:=b a (zFy d);simp [rF this,rF c]),zAj]
 omega
def nH (b c a) {lv} (d:lv < 9):((aM b lv (bF a lv)).take (gO b c a lv)).count (iF a lv)=gO b c a (lv+1):=by
 unfold gO;rw [aJq,aHc _ _ _ d]
def aId (a b c lv):gO a b c lv<=(aM a lv (bF c lv)).length:=by
 unfold gO;rw [iX];exact (zEY b a).countP_le
def aCu (a b c):gO a b c 9=(a.take b).count c:=by
 unfold gO;rw [zEU];congr 1;funext s;rw [rH,rH]
def eG (b:Nat->Nat) (lv c:Nat):List Value:=(List.range c).flatMap λa=> [.pointer (some ⟨b a,0,none⟩),.int .i64 lv,.int .i64 a]
def jT (b lv a):eG b lv (a+1)=eG b lv a++ [.pointer (some ⟨b a,0,none⟩),.int .i64 lv,.int .i64 a]:=by
 unfold eG;rw [zDx,zDI];simp
def zW (b lv a):(eG b lv a).length=a*3:=by
 induction a with
 | zero=>rfl
 | succ a c=>rw [jT,zAi,c];simp;omega
def gF (c lv b a) (k:a < b):(eG c lv b)[a*3]?=some (.pointer (some ⟨c a,0,none⟩))/\(eG c lv b)[a*3+1]?=some (.int .i64 lv)/\(eG c lv b)[a*3+2]?=some (.int .i64 a):=by
 induction b with
 | zero=>omega
 | succ b j=>
  rw [jT];by_cases e:a=b;subst e;have d:=zW c lv a;refine ⟨?_,?_,?_⟩;rw [zAo oM,d,zDK];rfl;rw [zAo oM,d,show a*3+1 - a*3=1 by omega];rfl;rw [zAo oM,d,show a*3+2 - a*3=2 by omega];rfl;have d:=zW c lv b;obtain ⟨f,g,i⟩:=j oM;refine ⟨?_,?_,?_⟩;rw [zAn oM];exact f;rw [zAn oM];exact g;rw [zAn oM];exact i
def aCP (c d lv a) (e:∀b,b < a->c b=d b):eG c lv a=eG d lv a:=by
 induction a with
 | zero=>rfl
 | succ a f=>rw [jT,jT,f (λb g=>e b oM),e a oM]
def ShelfRow (w:World) (B:Nat) (e:Value) (d:List Nat) (lv c:Nat):Prop:=
 ∃(b:Nat->Nat),w.ownsRow B 194 3 e c (eG b lv c)/\∀a,a < c->B<=b a/\TreeAt w (b a) (aM d lv a)
def ShelfRow.b {w w' B g a lv e} (j:ShelfRow w B g a lv e) (d:Vis w w'):ShelfRow w' B g a lv e:=by
 obtain ⟨i,k,b⟩:=j;exact ⟨i,d.own k dC dC,λf c=>⟨(b f c).1,(b f c).2.b d⟩⟩
def ShelfRow.below {w d B c a lv b} (e:ShelfRow w B c a lv b) (f:Below w.heap.size w d):ShelfRow d B c a lv b:=e.b (kb f)
def WaveAt (w:World) (B c:Nat) (a:List Nat):Prop:=
 B<=c/\∃(b:Nat->Value) (d:Int),Bk w c 191 (wcells b (a.length:Int) d)/\∀lv,lv < 9->ShelfRow w B (b lv) a lv (2 ^ lv)
def WaveAt.b {w w' B b a} (e:WaveAt w B b a) (c:Vis w w'):WaveAt w' B b a:=by
 obtain ⟨f,d,m,g,i⟩:=e;obtain ⟨l,j⟩:=c.Q g;exact ⟨f,d,l,j,λlv k=>(i lv k).b c⟩
def WaveAt.below {w c B b a} (d:WaveAt w B b a) (e:Below w.heap.size w c):WaveAt c B b a:=d.b (kb e)
abbrev VB (B:Nat):World->World->Prop:=VisK (λa=>B<=a)
def bD {B w b} (a:VB B w.drew b):VB B w b:=⟨⟨a.1.os,a.1.tape,a.1.output,a.1.size,a.1.block⟩,⟨a.2.os,a.2.tape,a.2.output,a.2.size,a.2.block⟩⟩
def VB.e {B w a} (c:VB B w a) (hB:B<=w.heap.size):Below B w a:=c.2.e hB (λd e b=>by have:=b;omega)
def VB.N {w B a e} (f:Bk w a 191 e) (hB:B<=a) (b):VB B w (w.setCell ⟨a,10,none⟩ (.int .i64 b)):=⟨Vis.N f b,ka (F:=λd=>B<=d) (ke _ _) (p:=⟨a,10,none⟩) (.inl hB) _⟩
@[irreducible] def rowC (c:Nat->Value) (i:Nat):Array Value:=Array.ofFn (n:=i) λg=>c g.val
def rB (b:Nat->Value) (a):(rowC b a).size=a:=by unfold rowC;simp
def pO (b:Nat->Value) {c a} (d:a < c):(rowC b c)[a]?=some (b a):=by
 unfold rowC;rw [zGe,dif_pos d]
def aKA (f:Nat->Value) {d c} (i:c < d) (g):(rowC f d).setIfInBounds c g=rowC (λb=>if b=c then g else f b) d:=by
 apply zEO;intro b;rcases zBe b d with a | a
 .rw [pO _ a];by_cases e:c=b
  .subst e;rw [zDt (by rw [rB];exact i),zBx rfl]
  .rw [zCe e,pO _ a,zBw (λj=>e j.symm)]
 .rw [zDn (by simp [rB];exact a),zDn (by rw [rB];exact a)]
def aGo (c b):rowC (λ_=>c) b=Array.replicate b c:=by
 apply zEO;intro d;rcases zBe d b with a | a
 .rw [pO _ a];simp [a]
 .rw [zDn (by rw [rB];exact a),zDn (by simpa using a)]
structure Bits (w:World) (B gB m:Nat) (T:Nat->Value) (R:Nat->List Bool):Prop where
 a:Bk w gB 131 (rowC T m)
 own:∀p,p < m->w.ownsRow B 4 1 (T p) (R p).length ((R p).map Value.bool)
 apart:∀p q,p < m->q < m->p≠q->∀b,(T p).ownBlock=some b->(T q).ownBlock≠some b
def Bits.same {w w' B e f} {d:Nat->Value} {R:Nat->List Bool} (c:Bits w B e f d R) (j:∀a b,Bk w a 131 b->Bk w' a 131 b) (k:∀a b,Bk w a 4 b->Bk w' a 4 b):Bits w' B e f d R:=
 ⟨j _ _ c.a,λl i=>aC (c.own l i) λa b _ g=>k a b g,c.apart⟩
def Bits.below {w f B c e} {b:Nat->Value} {R:Nat->List Bool} (j:Bits w B c e b R) (d:Below w.heap.size w f):Bits f B c e b R:=j.same (λg i a=>a.below d a.lt) (λg i a=>a.below d a.lt)
def Bits.start (w B a b) (c:Bk w a 131 (rowC (λ_=>.slice none 0 0) b)):Bits w B a b (λ_=>.slice none 0 0) (λ_=> []):=
 ⟨c,λe g=>ki _ _ _ _,λe i _ _ _ f d=>by simp [Value.ownBlock] at d⟩
def Bits.push {w w1 B n q a} {i:Nat->Value} {R:Nat->List Bool} {v b} (j:Bits w B n q i R) (r:a < q) (H:Keep (λb=>(i a).ownBlock=some b) w w1) (K:w1.ownsRow B 4 1 v ((R a).length+1) ((R a).map Value.bool++ [.bool b])) (u:v.ownBlock=(i a).ownBlock∨∃e,v.ownBlock=some e/\w.heap.size<=e):
 Bits (w1.setCell ⟨n,a,none⟩ v) B n q (λp=>if p=a then v else i p) (λp=>if p=a then R a++ [b] else R p):=by
 have J:(i a).ownBlock≠some n:=by intro d;exact bC (j.own a r) j.a dC d.symm
 have A:=H.d j.a J;have E:∀e m,Bk w1 e 4 m->Bk (w1.setCell ⟨n,a,none⟩ v) e 4 m:=λe m k=>k.m (Bk.ne k A dC) _;refine ⟨?_,λc g=>?_,λc y g D x s o=>?_⟩;rw [<-aKA i r v];exact A.set a v;by_cases d:c=a;subst d;rw [zBx rfl,zBx rfl,zAi,zAz];exact aC K λe m _ k=>E e m k;rw [zBw d,zBw d];refine aC (j.own c g) λe m k I=>E e m (H.d I ?_);exact λf=>j.apart c a g r d e k f;have M:∀c,c < q->∀f,(i c).ownBlock=some f->f < w.heap.size:=λc g f l=>((j.own c g).lt f l).2;have F:∀c,c < q->c≠a->∀f,v.ownBlock=some f->(i c).ownBlock≠some f:=(by intro c g L f l G;rcases u with u |⟨e,k,N⟩;rw [u] at l;exact j.apart a c r g (λd=>L d.symm) f l G;rw [k] at l;cases l;have:=M c g _ G;omega);by_cases t:c=a;subst t;rw [zBx rfl] at o;rw [zBw (λd=>x d.symm)];exact F y D (λd=>x d.symm) s o;rw [zBw t] at o;by_cases z:y=a;subst z;rw [zBx rfl];intro l;exact F c g t s l o;rw [zBw z];exact j.apart c y g D x s o
def aJr (c b lv a):aM (c++ [b]) lv a=if a=bF b lv then aM c lv a++ [iF b lv] else aM c lv a:=by
 unfold aM;rw [zEe,zAz];by_cases d:a=bF b lv
 .rw [zBx d];simp [d]
 .rw [zBw d];have:(bF b lv==a)=false:=zt;simp [this]
def Bits.congr {w B e c} {d:Nat->Value} {R R':Nat->List Bool} (b:Bits w B e c d R) (g:∀a,a < c->R a=R' a):Bits w B e c d R':=
 ⟨b.a,λa f=>by rw [<-g a f];exact b.own a f,b.apart⟩
def fX {w e b n m a d o} (k:w.ownsRow e b n d m o) (c:d.ownBlock=some a):∃f,Bk w a b f:=by
 rcases k.2 with ⟨rfl,_⟩|⟨j,p,g,rfl,_,l,_⟩
 .simp [Value.ownBlock] at c
 have i:j=a:=(by simpa [Value.ownBlock] using c);subst i;exact ⟨g,l⟩
def TreeAt.a6 {w j c f d} (l:TreeAt w f d) (p:Keep c w j) (o:∀a,c a->∃b e,Bk w a b e/\(b=191∨b=194)):TreeAt j f d:=by
 refine l.same λa b e i g=>p.d g λm=>?_;obtain ⟨r,q,n,ht⟩:=o a m;have k:=(aU g n).1;subst k;rcases ht with rfl | rfl;exact absurd i dC;exact absurd i dC
def ShelfRow.a5 {w p b B c o f lv m} (r:ShelfRow w B o f lv m) (l:Keep (λa=>a=b) w p) (k:Bk w b 191 c):ShelfRow p B o f lv m:=by
 obtain ⟨q,s,g⟩:=r;refine ⟨q,aC s λa c _ i=>l.d i λd=>?_,λn j=>⟨(g n j).1,(g n j).2.a6 l λa d=>by
  have e:a=b:=d;subst e;exact ⟨_,c,k,.inl rfl⟩⟩⟩
 have e:a=b:=d;subst e;exact absurd (aU i k).1 dC
def ShelfRow.mono {w B B' f a lv d} (i:ShelfRow w B f a lv d) (hB:B'<=B):ShelfRow w B' f a lv d:=by
 obtain ⟨g,j,b⟩:=i;exact ⟨g,cG j hB,λe c=>⟨zAk hB (b e c).1,(b e c).2⟩⟩
def WaveAt.mono {w B B' b a} (d:WaveAt w B b a) (hB:B'<=B):WaveAt w B' b a:=by
 obtain ⟨e,c,j,f,g⟩:=d;exact ⟨zAk hB e,c,j,f,λlv i=>(g lv i).mono hB⟩
def WalkAt (w:World) (B gk:Nat) (a:List Nat):Prop:=
 ∃c b,Bk w gk 152 #[.pointer (some ⟨c,0,none⟩),.pointer (some ⟨b,0,none⟩)]/\WaveAt w B c a/\Bk w b 207 (tcells a)
def WalkAt.b {w w' B gk b} (e:WalkAt w B gk b) (a:Vis w w'):WalkAt w' B gk b:=by
 obtain ⟨d,c,f,g,i⟩:=e;exact ⟨d,c,a.d f dC dC,g.b a,a.d i dC dC⟩
def WalkAt.mono {w B B' gk a} (d:WalkAt w B gk a) (hB:B'<=B):WalkAt w B' gk a:=by
 obtain ⟨c,b,e,f,g⟩:=d;exact ⟨c,b,e,f.mono hB,g⟩
def yD {B b a w} (f:WaveAt w B b a):
 Calls prog 123 #[b] w λe i=>e=.returned (.int .i64 a.length)/\w=i:=by
 obtain ⟨_,d,g,c,_⟩:=f;have j:w.cell? ⟨b,9,none⟩=some (.int .i64 a.length):=by rw [c.cell];have:=cK d (a.length:Int) g;simp [this]
 clear c;go_enter func123,ntmps123;go_wp2;go_ret;exact ⟨rfl,rfl⟩
def mH {B gk L w} (d:WalkAt w B gk L):
 Calls prog 65 #[gk] w λa c=>a=.returned (.int .i64 L.length)/\w=c:=by
 obtain ⟨j,i,b,e,f⟩:=d;have g:=b.cell 0;clear b f;go_enter func65,ntmps65;go_wp2_with fail;refine (yD e).mono ?_;rintro a c ⟨rfl,rfl⟩;go_wp2_with fail;go_ret;exact ⟨rfl,rfl⟩
def jQ {B gk:Nat} {L} {s:Nat} {w} (g:WalkAt w B gk L) (m:s < 257) (l:L.length<=1000):
 Calls prog 131 #[gk,(s:Int)] w λb f=>b=.returned (.int .i64 (L.countP (λa=>decide (a < s)):Nat))/\Below w.heap.size w f:=by
 obtain ⟨p,o,c,i,j⟩:=g;have n:=c.cell 1;clear c i;go_enter func131,ntmps131;go_wp2_with fail;refine (lR j m l).mono ?_;rintro b f ⟨rfl,k⟩;obtain ⟨e,d⟩:∃e,L.countP (λa=>decide (a < s))=e:=⟨_,rfl⟩;rw [d];go_wp2_with fail;go_ret;exact ⟨by rw [d];rfl,k⟩
def cR (a:List Nat) (b c:Nat):Nat:=a.countP (λd=>decide (d < b))+(a.take c).count b
end
section
open Go.RowKit Go.Shelf
def pB (a:Nat×Nat):List Value:= [.int .i64 a.1,.int .i64 a.2]
def bU (C:List (Nat×Nat)):List Value:=C.flatMap pB
def aF (C:List (Nat×Nat)) (a:Nat):Nat:=(C.getD a (0,0)).1
def aS (C:List (Nat×Nat)) (a:Nat):Nat:=(C.getD a (0,0)).2
def dO (C):(bU C).length=C.length*2:=by
 induction C with
 | nil=>rfl
 | cons b a c=>
  have:bU (b::a)=pB b++bU a:=rfl;rw [this,zAi,c];simp [pB];omega
def cL (C a) (c:a < C.length):(bU C)[a*2]?=some (.int .i64 (aF C a:Nat))/\(bU C)[a*2+1]?=some (.int .i64 (aS C a:Nat)):=by
 induction C generalizing a with
 | nil=>cases c
 | cons b d f=>
  have e:bU (b::d)=pB b++bU d:=rfl;rcases a with _ | a;exact ⟨rfl,rfl⟩;have:=f a (by simpa using c);rw [e,zAo (by simp [pB];omega),zAo (by simp [pB];omega)];rw [show (a+1)*2 -(pB b).length=a*2 by simp [pB];omega,show (a+1)*2+1 -(pB b).length=a*2+1 by simp [pB];omega];exact this
structure PRd (W:World) (gb gp:Nat) (A:Option Addr) (n c:Nat) (C:List (Nat×Nat)):Prop where
 box:W.cell? gb=some (.pointer (some gp))
 sl:W.cell? ⟨gp,1,none⟩=some (.slice A n c)
 rd:Rd W W.heap.size 2 A n (bU C)
def PRd.below {a f c gp i g e C} (d:PRd a c gp e i g C) (j:c < a.heap.size) (k:gp < a.heap.size) (b:Below a.heap.size a f):PRd f c gp e i g C:=
 ⟨(b.cell j).trans d.box,(b.cell k).trans d.sl,(d.rd.below b).mono b.size⟩
def PRd.drewN {c e gp f d b C} (a:PRd c e gp b f d C) (g):PRd (c.drewN g) e gp b f d C:=⟨a.box,a.sl,a.rd⟩
def PRd.at {d l gp e j f C} (g:PRd d l gp f e j C) {a} (o:a < C.length):
 a < e/\∃b c,f=some ⟨b,c,none⟩/\d.cell? ⟨b,c+a*2,none⟩=some (.int .i64 (aF C a:Nat))/\d.cell? ⟨b,c+a*2+1,none⟩=some (.int .i64 (aS C a:Nat)):=by
 have p:=g.rd.1;rw [dO] at p;have q:a < e:=oM;obtain ⟨b,c,k,_,i⟩:=g.rd.2 oM;obtain ⟨m,n⟩:=cL C a o;exact ⟨q,b,c,k,i _ _ m,by rw [zDp];exact i _ _ n⟩
def aFC {f gp:Nat} {i} {m j:Nat} {C} (a row:Nat) {b} (c:PRd b f gp i m j C) (l:a < C.length):
 Calls prog 154 #[(a:Int),(row:Int),f] b λe g=>e=.returned (.int .i64 (Lib.compareInt (aF C a:Nat) row))/\b=g:=by
 obtain ⟨s,n,t,rfl,q,k⟩:=c.at l;have o:=c.box;have p:=c.sl;have d:=AnyG.cmp_Compare_int shCmp ((aF C a:Nat):Int) (row:Int) b;change Calls prog 155 _ _ _ at d;generalize Lib.compareInt (aF C a:Nat) row=r at d⊢;clear c k;go_enter func154,ntmps154;go_wp2_with fail;refine d.mono ?_;rintro e g ⟨rfl,rfl⟩;go_wp2_with fail;go_ret;exact ⟨rfl,rfl⟩
def aDU {f g gp:Nat} {k} {p l:Nat} {C} (d:Nat) {e:Nat} {a} (c:PRd a f gp k p l C) (y:a.cell? g=some (.int .i64 e)) (o:d < C.length):
 Calls prog 157 #[(d:Int),f,g] a λb r=>b=.returned (.bool (decide (aS C d=e)))/\∃q,r=a.drewN q:=by
 obtain ⟨x,s,z,rfl,m,n⟩:=c.at o;have t:=c.box;have u:=c.sl;obtain ⟨j,i⟩:=eqx (aS C d);rw [i] at n⊢;clear c m i;by_cases b:j=e
 .subst b;go_enter func157,ntmps157;go_wp2;go_quiet (fail);go_wp2;go_ret;exact ⟨by simp,_,rfl⟩
 .have v:((j:Int)==e)=false:=zt;go_enter func157,ntmps157;go_wp2;go_quiet (fail);go_wp2;go_ret;exact ⟨by simp [b],_,rfl⟩
end
section
open Go.RowKit Go.Shelf
open Go.Sort (Holds)
structure PermAt (w:World) (B gp ga:Nat) (vl vo vt vf:Value) (R P:Nat) (ks:List Nat) (C:List (Nat×Nat)) (tk:List Bool) (fr:List Nat):Prop where
 a:Bk w gp 140 #[ga,vl,vo,(R:Int),(P:Int)]
 u:w.ownsRow B 133 2 vl C.length (bU C)
 t:w.ownsRow B 3 1 vo ks.length (ks.map sv)
 V:Bk w ga 183 #[vt,vf,(268435456:Int)]
 F:w.ownsRow B 4 1 vt tk.length (tk.map Value.bool)
 M:w.ownsRow B 3 1 vf fr.length (fr.map sv)
 apart:vo.ownBlock=none∨vo.ownBlock≠vf.ownBlock
 lt:∀k∈ks,k < C.length
 lo:B<=gp/\B<=ga
def aG6 {d:List Nat} {b:Nat->Nat} (j:d.Pairwise (λi n=>b i < b n)) (g:Nat):∀(a e:Nat),d[a]?=some e->(b e < g↔a < d.countP λk=>decide (b k < g)):=by
 induction d with
 | nil=>intro a e j;cases j
 | cons r d q=>
  obtain ⟨m,o⟩:=zEf.1 j;intro a e c;rw [zBn];by_cases f:b r < g
  .rcases a with _ | a
   .simp at c;subst c;simp [f]
   have:=q o a e (by simpa using c);simp only [f,decide_true,if_true];omega
  .have l:(d.countP λk=>decide (b k < g))=0:=(by rw [zDU];intro i p;have:=m i p;simp;omega);rcases a with _ | a
   .simp at c;subst c;simp [f,l]
   have s:=m e (zAd (by simpa using c));simp only [l,f,decide_false];simp;omega
def wZ {a:List Nat} {f:Nat->Nat} (i:a.Pairwise (λo p=>f o < f p)) (k:Nat):(∃g,a[a.countP λb=>decide (f b < k)]?=some g/\f g=k)↔∃b∈a,f b=k:=by
 constructor;rintro ⟨g,j,e⟩;exact ⟨g,zAd j,e⟩
 .rintro ⟨b,s,rfl⟩;obtain ⟨c,m,rfl⟩:=zDR s;have l:=zAa m;have j:=aG6 i (f a[c]) c _ l;have v:¬c < a.countP λb=>decide (f b < f a[c]):=λd=>by have:=j.2 d;omega
  rcases zBe (a.countP λb=>decide (f b < f a[c])) c with e | e
  .have n:(a.countP λb=>decide (f b < f a[c])) < a.length:=oM;have q:=zAa n;have r:=aG6 i (f a[c]) _ _ q;have t:¬f a[a.countP λb=>decide (f b < f a[c])] < f a[c]:=λd=>by have:=r.1 d;omega
   have u:=zAr.1 i _ _ n m e;omega
  have d:(a.countP λb=>decide (f b < f a[c]))=c:=oM;rw [d];exact ⟨_,l,rfl⟩
def gN (a:Nat) (ks:List Nat):Array (Fin (a+1)):=(ks.map λb=>(⟨b %(a+1),zFG _ (zGw a)⟩:Fin (a+1))).toArray
def pS {d:Nat} {ks} (g:∀a∈ks,a < d+1) {c a:Nat} (b:ks[c]?=some a):((gN d ks)[c]!).val=a:=by
 have e:c < ks.length:=(zAc.1 b).1;have i:=g a (zAd b);have f:ks[c]=a:=by rw [zAa e] at b;injection b
 rw [aES _ _ (by simpa [gN] using e)];simp [gN,f,zBu i]
def aGF {b ks} (d:∀a∈ks,a < b+1) (c:Nat->Bool):(gN b ks).toList.countP (λf=>c f.val)=ks.countP c:=by
 unfold gN;rw [zEr];refine zDy λa e=>?_;simp [zBu (d a e)]
def tC {w c f ks b} (g:Bk w f 3 b) (i:∀k∈ks,k < c+1) (ht:b.toList.take ks.length=ks.map sv):Holds (fS c) w f 0 (gN c ks):=by
 intro a j;have d:a < ks.length:=by simpa [gN] using j
 rw [zBi];refine ⟨?_,g.frozen a⟩;have e:(b.toList.take ks.length)[a]?=(ks.map sv)[a]?:=by rw [ht]
 rw [zBs,zBx d,zAf,zAa d,zDz] at e;rw [g.cell,e];have:=pS i (zAa d);simp [fS,this,sv]
def aKi {w e a c} {b:Array (Fin (a+1))} (i:Holds (fS a) w c 0 b) (g:SW (fS a) w c 0 b e):Below w.heap.size w e:=by
 obtain ⟨d,k,rfl⟩:=g;unfold sortWorld;have f:Go.Sort.putRow (fS a) (Go.Sort.ahead w d) c 0 b=Go.Sort.ahead w d:=Go.Sort.putRow_self (fS a) _ c 0 b i;rw [f];exact ⟨rfl,rfl,rfl,by show w.heap.size<=(w.heap++k).size;simp,λl j=>Go.Sort.heap_grow_old _ _ j⟩
def zL (a b):Lib.compareInt a b < 0↔a < b:=by
 unfold Lib.compareInt;split
 .simp [*]
 .split <;> simp [*]
def aLT (a b):Lib.compareInt a b=0↔a=b:=by
 unfold Lib.compareInt;split;simp;omega;split;simp;omega;simp;omega
section
variable {w : World} {B gp ga : Nat} {vl vo vt vf : Value} {R P : Nat} {ks : List Nat} {C : List (Nat × Nat)} {tk : List Bool} {fr : List Nat}
def PermAt.cp (c:PermAt w B gp ga vl vo vt vf R P ks C tk fr) {e w'} (j:w'.cell? e=some (.pointer (some gp))) (g:Below w.heap.size w w'):∃a i b,vl=.slice a i b/\PRd w' e gp a i b C:=by
 obtain ⟨a,b,d,_⟩:=aZ c.u;refine ⟨a,C.length,b,d,j,?_,?_⟩;have:=(c.a.below g c.a.lt).cell 1;rw [d] at this;exact this;have f:=aP c.u g;rw [d] at f;exact Rd.s f
end
def aOO {ks C} {c row:Nat} (m:C.length=c+1) (o:∀a∈ks,a < C.length) (p:ks.Pairwise (λk l=>aF C k < aF C l)):
 ((gN c ks).toList.countP (λb=>decide (Lib.compareInt (aF C b.val:Nat) row < 0)))=ks.countP (λa=>decide (aF C a < row))/\
 (decide (((gN c ks).toList.countP (λb=>decide (Lib.compareInt (aF C b.val:Nat) row < 0))) < (gN c ks).size)&&decide (Lib.compareInt (aF C ((gN c ks)[((gN c ks).toList.countP (λb=>decide (Lib.compareInt (aF C b.val:Nat) row < 0)))]!).val:Nat) row=0))=decide (∃a∈ks,aF C a=row):=by
 have g:∀a∈ks,a < c+1:=λa n=>by rw [<-m];exact o a n
 have i:(gN c ks).toList.countP (λb=>decide (Lib.compareInt (aF C b.val:Nat) row < 0))=ks.countP (λa=>decide (aF C a < row)):=by rw [<-aGF g (λa=>decide (aF C a < row))];congr 1;funext b;rw [decide_eq_decide,zL];omega
 refine ⟨i,?_⟩;rw [i,zEd];simp only [zBd,zCa,aLT];rw [<-wZ (f:=aF C) p row];constructor;rintro ⟨d,j⟩;have e:(ks.countP λa=>decide (aF C a < row)) < ks.length:=(by simpa [gN] using d);refine ⟨_,zAa e,?_⟩;rw [pS g (zAa e)] at j;omega;rintro ⟨b,d,j⟩;have e:=(zAc.1 d).1;refine ⟨by simpa [gN] using e,?_⟩;rw [pS g d];omega
def lS {B gp ga:Nat} {vl vo vt vf} {R P:Nat} {ks C tk fr} (row:Nat) {w} (d:PermAt w B gp ga vl vo vt vf R P ks C tk fr) (F:ks.Pairwise (λk e=>aF C k < aF C e)) (O:ks.length<=1099511627776):
 Calls prog 101 #[gp,(row:Int)] w λa l=>a=.returned (.tuple #[.int .i64 (ks.countP (λb=>decide (aF C b < row)):Nat),.bool (decide (∃b∈ks,aF C b=row))])/\Below w.heap.size w l:=by
 have ai:=d.a.lt;have n:Below w.heap.size w (w.alloc (.cells #[gp] 102)):=bR.alloc nL _;have X:w.cell? ⟨gp,2,none⟩=some vo:=(d.a.cell 2).trans rfl;have N:∀j q f,vo=.slice j q f->Calls prog 153 #[.slice j q f,(row:Int),.func (.func 154) #[] #[w.heap.size]] (w.alloc (.cells #[gp] 102)) λa l=>a=.returned (.tuple #[.int .i64 (ks.countP (λb=>decide (aF C b < row)):Nat),.bool (decide (∃b∈ks,aF C b=row))])/\Below w.heap.size w l:=by
  intro j q f I;rcases zBa ks.length with r | r;have a6:ks= []:=zBk r;obtain ⟨W,Y,g,_⟩:=aZ d.t;rw [I] at g;injection g with _ g _;rw [r] at g;subst g;subst a6;refine (Any.slices_BinarySearchFunc_none shBin j f (.int .i64 row) (.func (.func 154) #[] #[w.heap.size]) _).mono ?_;rintro a l ⟨rfl,rfl⟩;exact ⟨by simp,n⟩
  .rcases d.t.2 with ⟨_,a⟩|⟨m,ac,Z,a,ag,a4,ak,aj,al,ht⟩;omega
   .rw [I] at a;injection a with e1 e2 e3;subst e1 e2 e3;rw [zBl] at ht;obtain ⟨k0,a5⟩:∃b,b∈ks:=(by obtain ⟨i,ab⟩:=zFe r;exact ⟨i,ab⟩);obtain ⟨c,y⟩:∃c,C.length=c+1:=⟨C.length - 1,by have:=d.lt k0 a5;omega⟩;have E:∀b∈ks,b < c+1:=λb O=>by rw [<-y];exact d.lt b O
    have t:Bk w m 3 Z:=a4;have s:=t.below n t.lt;have L:=tC s E ht;have a2:(w.alloc (.cells #[gp] 102)).cell? w.heap.size=some (.pointer (some gp)):=(kd w 102 #[gp]).cell 0;have a3:CmpLaysT prog 154 #[w.heap.size] (fS c) (.int .i64 row) (λi=>Lib.compareInt (aF C i.val:Nat) row) m 0 (gN c ks).size (w.alloc (.cells #[gp] 102)):=(by intro H G u ah i;have D:=kV (enc:=fS c) s.lt 0 H u G;obtain ⟨j,q,f,a,T⟩:=d.cp a2 n;have a9:PRd (sortWorld (fS c) (w.alloc (.cells #[gp] 102)) m 0 H u G) w.heap.size gp j q f C:=(by refine ⟨?_,?_,?_⟩;exact (D.cell (p:=w.heap.size) zs (λa=>by have:=t.lt;have ae:w.heap.size=m:=a;omega)).trans T.box;exact (D.cell (p:=⟨gp,1,none⟩) zt (Bk.ne d.a t dC)).trans T.sl;have a7:=aP d.u n;have Q:=aC (w':=sortWorld (fS c) (w.alloc (.cells #[gp] 102)) m 0 H u G) a7 λe ad _ o=>D.d o (Bk.ne o s dC);obtain ⟨W,Y,g,_⟩:=aZ d.u;rw [a] at g Q;injection g with e91 e92 e93;subst e92;exact Rd.s Q);exact (aFC i.val row a9 (by rw [y];exact i.isLt)).mono λ_ _ ⟨a0,a1⟩=>⟨a0,0,#[],by rw [<-a1,Go.Sort.grow_empty];rfl⟩);have a8:∀k e,k<=e->e < (gN c ks).size->Lib.compareInt (aF C ((gN c ks)[e]!).val:Nat) row < 0->Lib.compareInt (aF C ((gN c ks)[k]!).val:Nat) row < 0:=(by intro k e v x S;have o:e < ks.length:=(by simpa [gN] using x);rw [pS E (zAa o),zL] at S;rw [pS E (zAa (show k < ks.length by omega)),zL];rcases zFL v with rfl | v;exact S;have:=zAr.1 F k e oM o v;omega);have U:(gN c ks).size=ks.length:=(by simp [gN]);have hB:=Any.slices_BinarySearchFunc shBin (fS c) (oC c) (.int .i64 row) (λi=>Lib.compareInt (aF C i.val:Nat) row) 154 #[w.heap.size] m 0 f (gN c ks) (w.alloc (.cells #[gp] 102)) (enters_of func154 kR rfl) a3 L s.lt (by rw [U];omega) a8;obtain ⟨J,K⟩:=aOO (row:=row) y d.lt F;rw [J] at K;rw [J,K] at hB;rw [U] at hB;refine hB.mono ?_;rintro a l ⟨rfl,aa⟩;exact ⟨rfl,n.trans ((aKi L aa).mono zs)⟩
 obtain ⟨j,f,a,_⟩:=aZ d.t;have M:=N _ _ _ a;rw [a] at X;obtain ⟨V,A⟩:∃V,ks.countP (λb=>decide (aF C b < row))=V:=⟨_,rfl⟩;obtain ⟨af,z⟩:∃e,decide (∃b∈ks,aF C b=row)=e:=⟨_,rfl⟩;rw [A,z] at M;rw [A,z];clear N d F A z n a;go_enter func101,ntmps101;go_wp2_with fail;refine M.mono ?_;rintro a l ⟨rfl,x⟩;go_wp2_with fail;go_ret2;exact ⟨rfl,x⟩
def kH (b:Nat->Bool):List Nat->Nat->Int
 | [],_=>-1
 | k::l,a=>if b k then (a:Int) else kH b l (a+1)
def mD {p:Nat->Bool} {l} (b:∀a∈l,p a=false) (c):kH p l c=-1:=by
 induction l generalizing c with
 | nil=>rfl
 | cons a l e=>
  unfold kH;rw [zBw (by rw [b a zs];simp)];exact e (λa d=>b a (by simp [d])) _
def xZ {p:Nat->Bool} {l} (b:∃a∈l,p a=true) (d):∃(e a:Nat),kH p l d=((d+e:Nat):Int)/\l[e]?=some a/\p a=true:=by
 induction l generalizing d with
 | nil=>obtain ⟨a,f,_⟩:=b;cases f
 | cons i l o=>
  unfold kH;by_cases c:p i=true;rw [zBx c];exact ⟨0,i,rfl,rfl,c⟩;rw [zBw c];obtain ⟨a,f,g⟩:=b;have n:a∈l:=(by rcases zDf.1 f with rfl | b;exact absurd g c;exact b);obtain ⟨e,q,j,k,m⟩:=o ⟨a,n,g⟩ (d+1);exact ⟨e+1,q,by rw [j];congr 1;omega,by simpa using k,m⟩
def aI6 {b ks} (d:∀a∈ks,a < b+1) (e:Nat->Bool) (f:Fin (b+1)) (c):Lib.idxByFrom (λ(_ j:Fin (b+1))=>e j.val) f ((ks.map λa=>(⟨a %(b+1),zFG _ (zGw b)⟩:Fin (b+1)))) c=kH e ks c:=by
 induction ks generalizing c with
 | nil=>rfl
 | cons a k i=>
  rw [zEJ];unfold Lib.idxByFrom kH;simp only [zBu (d a zs)];rw [i (λa g=>d a (by simp [g]))]
def kE {B gp ga:Nat} {vl vo vt vf} {R P:Nat} {ks C tk fr} (e:Nat) {w} (f:PermAt w B gp ga vl vo vt vf R P ks C tk fr) (F:ks.length<=1099511627776):
 Calls prog 102 #[gp,(e:Int)] w λb k=>b=.returned (.int .i64 (kH (λa=>decide (aS C a=e)) ks 0))/\Below w.heap.size w k:=by
 have a3:=f.a.lt;have J:w.cell? ⟨gp,2,none⟩=some vo:=(f.a.cell 2).trans rfl;obtain ⟨g,o⟩:∃g,g=(w.alloc (.cells #[gp] 102)).alloc (.cells #[(e:Int)] 3):=⟨_,rfl⟩;have d:Below w.heap.size w g:=o ▸(bR.alloc nL _).alloc zs _;have r:Bk g w.heap.size 102 #[gp]:=o ▸(kd _ _ _).alloc _;have s:Bk g (w.heap.size+1) 3 #[(e:Int)]:=by have:=kd (w.alloc (.cells #[gp] 102)) 3 #[(e:Int)];rw [<-o] at this;simpa using this
 have A:∀l p j,vo=.slice l p j->Calls prog 156 #[.slice l p j,.func (.func 157) #[] #[w.heap.size,.pointer (some ⟨w.heap.size+1,0,none⟩)]] g λb k=>b=.returned (.int .i64 (kH (λa=>decide (aS C a=e)) ks 0))/\Below w.heap.size w k:=by
  intro l p j v;rcases zBa ks.length with n | n;have W:ks= []:=zBk n;obtain ⟨Z,a0,m,_⟩:=aZ f.t;rw [v] at m;injection m with _ m _;rw [n] at m;subst m;subst W;refine (AnyE.slices_IndexFunc_empty shIdx l j (.func (.func 157) #[] #[w.heap.size,.pointer (some ⟨w.heap.size+1,0,none⟩)]) _).mono ?_;rintro b k ⟨rfl,rfl⟩;exact ⟨rfl,d⟩
  .rcases f.t.2 with ⟨_,b⟩|⟨x,a1,K,b,a2,S,a5,a4,a6,ht⟩;omega
   .rw [v] at b;injection b with e1 e2 e3;subst e1 e2 e3;rw [zBl] at ht;obtain ⟨k0,V⟩:∃a,a∈ks:=(by obtain ⟨i,X⟩:=zFe n;exact ⟨i,X⟩);obtain ⟨c,D⟩:∃c,C.length=c+1:=⟨C.length - 1,by have:=f.lt k0 V;omega⟩;have G:∀a∈ks,a < c+1:=λa F=>by rw [<-D];exact f.lt a F
    have E:Bk w x 3 K:=S;have T:=E.below d E.lt;have M:=tC T G ht;have u:PredAt prog 157 #[w.heap.size,.pointer (some ⟨w.heap.size+1,0,none⟩)] (fS c) (λi=>decide (aS C i.val=e)) g:=(by intro I i q;have O:=r.below q r.lt;have Q:=s.below q s.lt;obtain ⟨l,p,j,b,u⟩:=f.cp (w':=I) (O.cell 0) (d.trans (q.mono d.size));exact aDU i.val u (Q.cell 0) (by rw [D];exact i.isLt));have a7:ks.length=(ks.map λa=>(⟨a %(c+1),zFG _ (zGw c)⟩:Fin (c+1))).length:=zs;have y:=AnyE.slices_IndexFunc shIdx (fS c) (λi=>decide (aS C i.val=e)) 157 #[w.heap.size,.pointer (some ⟨w.heap.size+1,0,none⟩)] (enters_of func157 kR rfl) x 0 ks.length j (ks.map λa=>(⟨a %(c+1),zFG _ (zGw c)⟩:Fin (c+1))) g u zs oM (λY U=>by
     have L:=(M Y (by simpa [gN] using U)).1;simpa [gN] using L)
    rw [zAg zs,Lib.idxBy,aI6 G (λa=>decide (aS C a=e))] at y;refine y.mono ?_;rintro b k ⟨rfl,a8,rfl⟩;exact ⟨rfl,d.os,d.tape,d.output,d.size,d.block⟩
 obtain ⟨l,j,b,_⟩:=aZ f.t;have z:=A _ _ _ b;rw [b] at J;obtain ⟨H,t⟩:∃H,kH (λa=>decide (aS C a=e)) ks 0=H:=⟨_,rfl⟩;rw [t] at z;rw [t];subst o;clear A f t d b r s;go_enter func102,ntmps102;go_wp2_with fail;refine z.mono ?_;rintro b k ⟨rfl,N⟩;go_wp2_with fail;go_ret;exact ⟨rfl,N⟩
end
section
open Go.RowKit
def wK:(prog.info? 133).map (λa=>(a.zero,a.size,a.bytes))=some (some (.agg #[o0,o0]),2,16):=by kernel_rfl
def PF (gp ga:Nat) (vl vo vt:Value) (a:Nat):Prop:=a=gp∨a=ga∨vl.ownBlock=some a∨vo.ownBlock=some a∨vt.ownBlock=some a
def lZ (C a):bU (C++ [a])=bU C++pB a:=by simp [bU]
def PermAt.below {w c B gp ga vl vo vt vf R P ks C tk fr} (a:PermAt w B gp ga vl vo vt vf R P ks C tk fr) (b:Below w.heap.size w c):PermAt c B gp ga vl vo vt vf R P ks C tk fr:=
 ⟨a.a.below b a.a.lt,aP a.u b,aP a.t b,a.V.below b a.V.lt,aP a.F b,aP a.M b,a.apart,a.lt,a.lo⟩
def iJ {d w j B c g f i k} (m:w.ownsRow B c g i f k) (o:Keep d w j) (n:∀a b,d a->Bk w a c b->False):j.ownsRow B c g i f k:=
 aC m λa b _ e=>o.d e (λl=>n a b l e)
def aKV {w:World} {B g cap:Nat} {C:List (Nat×Nat)} {y:Nat×Nat} (l:w.ownsRow B 133 2 (.slice (some g) (C.length+1) cap) (C.length+1) (bU (C++ [y]))) (a:Nat×Nat):
 ((w.setCell ⟨g,C.length*2,none⟩ (.int .i64 a.1)).setCell ⟨g,C.length*2+1,none⟩ (.int .i64 a.2)).ownsRow B 133 2 (.slice (some g) (C.length+1) cap) (C.length+1) (bU (C++ [a])):=by
 rcases l.2 with ⟨c,_⟩|⟨x,v,k,c,m,n,o,p,q,e⟩
 .cases c
 .injection c with h8 h9 h10;injection h8 with h8;injection h8 with h8 _;subst h8 h10;have r:Bk w g 133 k:=n;have s:=(r.set (C.length*2) (.int .i64 a.1)).set (C.length*2+1) (.int .i64 a.2);refine ⟨by rw [dO];simp,.inr ⟨g,cap,_,rfl,m,s,o,p,by simpa using q,?_⟩⟩;rw [lZ] at e⊢;have f:=dO C;apply zDs;intro b;have d:=congrArg (λt=>t[b]?) e;simp only [zBs,zDz] at d;rw [zBs,zDz,zCd,zCd];by_cases u:b < C.length*2
  .rw [zBx oM] at d⊢;rw [zBw oM,zBw oM,d,zAn oM,zAn oM]
  .by_cases i:b=C.length*2;subst i;rw [zBx oM,zBw oM,zBx rfl,zBx oM,zAo oM,f,zDK];rfl
   .by_cases j:b=C.length*2+1;subst j;rw [zBx oM,zBx rfl,zBx zt,zAo oM,f,show C.length*2+1 - C.length*2=1 by omega];rfl
    .rw [zBw oM,zBg (by simp [pB];omega)]
def aFD {B gp ga vl vo vt R P ks C tk row u w} (q:PermAt w B gp ga vl vo vt (.slice none 0 0) R P ks C tk []) (bd:ks.Pairwise (λbu i=>aF C bu < aF C i)) (aB:∀j∈ks,aF C j < row) (bc:∀j∈ks,aS C j≠u) (cf:row < R) (ce:u < P) (ht:tk.length=C.length) (bI:C.length<=900000) (r:ks.length<=900000) (hB:B<=w.heap.size):
 Calls prog 60 #[gp,(row:Int),(u:Int)] w λz s=>z=.returned (.int .i64 0)/\Keep (PF gp ga vl vo vt) w s/\∃aK aL Y,PermAt s B gp ga aK aL Y (.slice none 0 0) R P (ks++ [C.length]) (C++ [(row,u)]) (tk++ [true]) []/\(aL.ownBlock=vo.ownBlock∨∃f,aL.ownBlock=some f/\w.heap.size<=f)/\(aK.ownBlock=vl.ownBlock∨∃f,aK.ownBlock=some f/\w.heap.size<=f)/\(Y.ownBlock=vt.ownBlock∨∃f,Y.ownBlock=some f/\w.heap.size<=f):=by
 obtain ⟨c1,bQ,bY,bZ,c0⟩:=info_parts wK;have b2:ks.countP (λj=>decide (aF C j < row))=ks.length:=zDJ.2 λj r=>by simpa using aB j r
 have b3:decide (∃j∈ks,aF C j=row)=false:=by rw [decide_eq_false_iff_not];rintro ⟨j,r,z⟩;have:=aB j r;omega
 have b8:kH (λj=>decide (aS C j=u)) ks 0=-1:=mD (λj r=>by simpa using bc j r) 0;have bw:w.cell? ⟨gp,3,none⟩=some (.int .i64 R):=(q.a.cell 3).trans rfl;have bx:w.cell? ⟨gp,4,none⟩=some (.int .i64 P):=(q.a.cell 4).trans rfl;have a1:=lS (B:=B) (gp:=gp) (ga:=ga) (vl:=vl) (vo:=vo) (vt:=vt) (vf:=(.slice none 0 0)) (R:=R) (P:=P) (ks:=ks) (C:=C) (tk:=tk) (fr:=[]) (w:=w) row q bd oM;rw [b2,b3] at a1;have ax:=λbt bJ=>kE (B:=B) (gp:=gp) (ga:=ga) (vl:=vl) (vo:=vo) (vt:=vt) (vf:=(.slice none 0 0)) (R:=R) (P:=P) (ks:=ks) (C:=C) (tk:=tk) (fr:=[]) (w:=bt) u bJ oM;simp only [b8] at ax;obtain ⟨t,a8⟩:=eqx ks.length;obtain ⟨b,D⟩:=eqx C.length;rw [a8] at a1;have ag:=q;have aU:=ht;have cd:b<=900000:=oM;have ch:t<=900000:=oM;clear b2 b3 b8 bd aB bc q ht bI r;go_enter func60,ntmps60;go_wp2_with fail;refine a1.mono ?_;clear a1;rintro z w1 ⟨rfl,a2⟩;have J:=ag.below a2;have ah:=J;clear J bw bx;go_wp2_with fail;refine (ax w1 ah).mono ?_;rintro z Q ⟨rfl,am⟩;have U:=ah.below am;have K:=a2.trans (am.mono a2.size);have bv:Q.cell? gp=some (.pointer (some ga)):=(U.a.cell 0).trans rfl;have m:=U;clear U am ah a2 ax;go_wp2_with fail;obtain ⟨aQ,aW,ae,_⟩:=aZ m.F;have ab:tk.length=b:=by rw [aU,D]
 have ak:=oP (A:=aQ) (c:=aW) (N:=b) B ga none 0 tk Q (by have:=m.V;rw [ae,ab] at this;exact this) (by have:=m.F;rw [ae,ab] at this;exact this) (zk hB K.size) oM;have bm:vt=.slice aQ b aW:=by rw [ae,ab]
 rw [<-bm] at ak;refine ak.mono ?_;clear ak ae bm ab;rintro z aM ⟨rfl,M,Y,ap,ba,bL⟩;have V:=M.d m.a (λa=>by
  rcases a with a | a;exact Bk.ne m.a m.V dC a
  .exact bC m.F m.a dC a.symm)
 have F:=iJ m.u M (λi l a d=>by
  rcases a with a | a;subst a;exact Bk.ne d m.V dC rfl
  .exact bC m.F d dC a.symm)
 have bi:=iJ m.t M (λi l a d=>by
  rcases a with a | a;subst a;exact Bk.ne d m.V dC rfl
  .exact bC m.F d dC a.symm)
 obtain ⟨bs,bA,bf,_⟩:=aZ F;have aE:vl=.slice bs b bA:=by rw [bf,D]
 have X:aM.cell? ⟨gp,1,none⟩=some vl:=(V.cell 1).trans rfl;have bE:=V.frozen 1;rw [aE] at X;have bO:=V.lt;rw [D] at F;have bH:B<=aM.heap.size:=by have:=M.size;have:=hB;have:=K.size;omega
 have bB:=(zEw aM (Obj.cells #[o0,o0] 133) ⟨gp,1,none⟩ bO).trans X;clear bf bv;go_wp2_with fail;refine wp_loop_rounds 2 ?_;rw [rounds_succ];go_wp2_with (at_builtin;refine bP _ rfl (.tmp 72) (.tmp 74) _ rfl B 133 c1 (.agg #[o0,o0]) 2 16 underlying78 bQ bY bZ c0 rfl dC vl b _ aE.symm F rfl rfl (by simp [Value.oneCell']) zx oM bH ?_;intro cj x aA aq ci b1;have a3:=V.grown aq (bC F V dC);have aY:x.cell? ⟨gp,1,none⟩=some vl:=(a3.cell 1).trans rfl;have bD:=a3.frozen 1;rw [aE] at aY;obtain ⟨br,o,rfl,bV⟩:=aR aA;obtain ⟨I,ai,W,aT⟩:=hqq4 a3 aA aq b1;clear bV aA aq b1 a3);obtain ⟨e,aX,rfl,cg,ao,bK⟩:∃e,∃Z:Array Value,br=some ⟨e,0,none⟩/\B<=e/\Bk x e 133 Z/\b*2+1 < Z.size:=by rcases ai.2 with ⟨J,U⟩|⟨f,bz,Z,J,U,bG,c7,c8,c9,ca⟩;omega;injection J with J _ _;exact ⟨f,Z,J,U,bG,by omega⟩
 have b7:gp≠e:=Bk.ne I ao dC;have a5:=I.set 1 (.slice (some ⟨e,0,none⟩) (b+1) o);have E:=ao.m (p:=⟨gp,1,none⟩) (λz=>b7 z.symm) (.slice (some ⟨e,0,none⟩) (b+1) o);have ay:Keep (PF gp ga vl vo vt) Q (x.setCell ⟨gp,1,none⟩ (.slice (some ⟨e,0,none⟩) (b+1) o)):=
  ((M.mono (G:=PF gp ga vl vo vt) (λi _ a=>by rcases a with a | a;exact .inr (.inl a);exact .inr (.inr (.inr (.inr a))))).grown W (λj r=>.inl (.inr (.inr (.inl r))))).setCell (.inl (.inl rfl)) _
 have bg:=aC (w':=x.setCell ⟨gp,1,none⟩ (.slice (some ⟨e,0,none⟩) (b+1) o)) ai λi l _ d=>d.m (p:=⟨gp,1,none⟩) (Bk.ne d I dC) _;have bj:=aC (w':=x) bi λi l _ d=>d.grown W (bC F d dC);have aH:=aC (w':=x.setCell ⟨gp,1,none⟩ (.slice (some ⟨e,0,none⟩) (b+1) o)) bj λi l _ d=>d.m (p:=⟨gp,1,none⟩) (Bk.ne d I dC) _;have av:=ap.grown W (bC F ap dC);have aw:=av.m (p:=⟨gp,1,none⟩) (Bk.ne av I dC) (.slice (some ⟨e,0,none⟩) (b+1) o);have bn:=aC (w':=x) ba λi l _ d=>d.grown W (bC F d dC);have bo:=aC (w':=x.setCell ⟨gp,1,none⟩ (.slice (some ⟨e,0,none⟩) (b+1) o)) bn λi l _ d=>d.m (p:=⟨gp,1,none⟩) (Bk.ne d I dC) _;have b4:(Value.slice (some ⟨e,0,none⟩) (b+1) o).ownBlock=vl.ownBlock∨∃f,(Value.slice (some ⟨e,0,none⟩) (b+1) o).ownBlock=some f/\Q.heap.size<=f:=by rcases aT with a | a;exact .inl a;exact .inr ⟨_,a,by have:=M.size;omega⟩
 clear M ap ba V F bi I ai W aT X bE bB bD aY bj av bn;generalize x.setCell ⟨gp,1,none⟩ (.slice (some ⟨e,0,none⟩) (b+1) o)=w6 at a5 E ay bg aH aw bo⊢;have X:w6.cell? ⟨gp,1,none⟩=some (.slice (some ⟨e,0,none⟩) (b+1) o):=(a5.cell 1).trans rfl;have aN:=E.cell (b*2);have aO:=E.cell (b*2+1);rw [zAq oM] at aN aO;have c2:=E.frozen (b*2);have c3:=E.frozen (b*2+1);generalize aX[b*2]' oM=u0 at aN;generalize aX[b*2+1]' oM=u1 at aO;have bT:decide (b+1<=b)=false:=zs
 have bU:decide ((b:Int)+1<=b)=false:=zt
 have a0:w6.cell? ⟨gp,2,none⟩=some vo:=(a5.cell 2).trans rfl;obtain ⟨aP,aV,bh,_⟩:=aZ aH;have ad:vo=.slice aP t aV:=by rw [bh,a8]
 rw [ad] at a0;clear bh ao bK;rw [rounds_succ];go_wp2_with fail
 have ac:=aKV (C:=C) (y:=(0,0)) (g:=e) (cap:=o) (w:=w6) (B:=B) (by
  rw [D,lZ];exact bg) (row,u)
 rw [D] at ac;have O:Keep (λi=>i=e) w6 ((w6.setCell ⟨e,b*2,none⟩ (.int .i64 row)).setCell ⟨e,b*2+1,none⟩ (.int .i64 u)):=((ke (λi=>i=e) w6).setCell (p:=⟨e,b*2,none⟩) (.inl rfl) _).setCell (p:=⟨e,b*2+1,none⟩) (.inl rfl) _;have aD:((w6.setCell ⟨e,b*2,none⟩ (.int .i64 row)).setCell ⟨e,b*2+1,none⟩ (.int .i64 u)).heap.size=w6.heap.size:=by simp [World.setCell]
 rw [<-aD];clear aN aO c2 c3 X a0 bT bU;generalize (w6.setCell ⟨e,b*2,none⟩ (.int .i64 row)).setCell ⟨e,b*2+1,none⟩ (.int .i64 u)=w7 at ac O aD⊢;have b6:=O.d a5 (λa=>b7 a);have b5:=O.d aw (λa=>by subst a;exact Bk.ne aw E dC rfl);have bl:=iJ aH O (λi l a d=>by subst a;exact Bk.ne d E dC rfl);have bp:=iJ bo O (λi l a d=>by subst a;exact Bk.ne d E dC rfl);have cb:B<=Q.heap.size:=zk hB K.size
 have cc:=ay.size;have aj:B<=(w7.alloc (.cells #[(b:Int)] 3)).heap.size:=zt
 have aJ:w7.heap.size < (w7.alloc (.cells #[(b:Int)] 3)).heap.size:=zs
 have aa:Rd (w7.alloc (.cells #[(b:Int)] 3)) (w7.alloc (.cells #[(b:Int)] 3)).heap.size 1 (some ⟨w7.heap.size,0,none⟩) 1 [sv b]:=(Rd.cm w7 3 1 #[(b:Int)] rfl).mono zs;have v:=bl.alloc (.cells #[(b:Int)] 3);have aG:=ac.alloc (.cells #[(b:Int)] 3);have aI:=bp.alloc (.cells #[(b:Int)] 3);have a6:=b6.alloc (.cells #[(b:Int)] 3);have a4:=b5.alloc (.cells #[(b:Int)] 3);have an:Below w7.heap.size w7 (w7.alloc (.cells #[(b:Int)] 3)):=bR.alloc nL _;obtain ⟨bF,au⟩:=eqx w7.heap.size;rw [au] at aa aJ;rw [au];generalize w7.alloc (.cells #[(b:Int)] 3)=w8 at aj aa v aG aI a6 a4 an aJ⊢;have az:Keep (PF gp ga vl vo vt) Q w8:=(ay.trans' (O.trans' (kF an) (λ_ _ a=>a)) (λi d a=>by
  rcases b4 with q |⟨f,q,c6⟩;exact .inr (.inr (.inl (by rw [<-q,a];rfl)))
  .exfalso;have:e=f:=(by simpa [Value.ownBlock] using q);omega))
 rw [a8,ad] at v;have b9:=sW (B:=B) (A:=aP) (n:=t) (c:=aV) (xs:=(ks.map sv)) (Av:=(some ⟨bF,0,none⟩)) (k:=b) (w:=w8) 1 v aa aj oM;refine b9.mono ?_;clear b9;rintro z H ⟨bq,rfl,bb,L,al⟩;rw [<-ad] at L al v;have a7:=a6.grown L (bC v a6 dC);have bN:=a4.grown L (bC v a4 dC);have bW:=aC (w':=H) aG λi l _ d=>d.grown L (bC v d dC);have bX:=aC (w':=H) aI λi l _ d=>d.grown L (bC v d dC);have bS:=az.grown L (λj r=>.inl (.inr (.inr (.inr (.inl r)))));have bM:bq.ownBlock=vo.ownBlock∨∃f,bq.ownBlock=some f/\Q.heap.size<=f:=by rcases al with a | a;exact .inl a;exact .inr ⟨_,a,az.size⟩
 have a0:H.cell? ⟨gp,2,none⟩=some vo:=(a7.cell 2).trans rfl;rw [ad] at a0;have c5:=a7.frozen 2;obtain ⟨S,T,be,_⟩:=aZ bb;have c4:=be;clear ac O aD b6 b5 bl bp aj aJ aa v aG aI a6 a4 an au az L al;subst be;go_wp2_with fail;go_ret;have a9:∀i af l,Bk H i af l->af≠140->Bk (H.setCell ⟨gp,2,none⟩ (.slice S (t+1) T)) i af l:=λi af l d ht=>d.m (p:=⟨gp,2,none⟩) (Bk.ne d a7 ht) _;refine ⟨rfl,(kF K).trans' (bS.setCell (.inl (.inl rfl)) _) (λ_ _ a=>a),.slice (some ⟨e,0,none⟩) (b+1) o,.slice S (t+1) T,Y,⟨a7.set 2 _,?_,?_,a9 _ _ _ bN dC,?_,?_,?_,?_,ag.lo⟩,?_,?_,?_⟩;have:=aC (w':=H.setCell ⟨gp,2,none⟩ (.slice S (t+1) T)) bW λi l _ d=>a9 _ _ _ d dC;simpa [D] using this;have:=aC (w':=H.setCell ⟨gp,2,none⟩ (.slice S (t+1) T)) bb λi l _ d=>a9 _ _ _ d dC;simpa [a8,D] using this;have:=aC (w':=H.setCell ⟨gp,2,none⟩ (.slice S (t+1) T)) bX λi l _ d=>a9 _ _ _ d dC;simpa [aU,D] using this;exact ki _ _ _ _;rcases (Value.slice S (t+1) T).ownBlock with _ | f;exact .inl rfl;exact .inr (by simp [Value.ownBlock]);intro j r;rcases zCp.1 r with q | q;have:=ag.lt j q;simp;omega;simp at q;simp;omega;rcases bM with a |⟨f,a,b0⟩;exact .inl a;exact .inr ⟨f,a,by have:=K.size;omega⟩;rcases b4 with a |⟨f,a,b0⟩;exact .inl a;exact .inr ⟨f,a,by have:=K.size;omega⟩;rcases bL with a |⟨f,a,b0⟩;exact .inl a;exact .inr ⟨f,a,by have:=K.size;omega⟩
end
end Go.Proofs.YtknjfpcdhdmghaaGreatDoor
