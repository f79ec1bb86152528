/- Lemmas of the walk. Conditions: each its own. -/
import Derived.Test.YtknjfpcdhdmghaaGreatDoorPt1
import Derived.Test.YtknjfpcdhdmghaaGreatDoorPt2
set_option linter.all false
set_option maxRecDepth 100000
set_option maxHeartbeats 4000000
namespace Go.Proofs.YtknjfpcdhdmghaaGreatDoor
open Tryz
open Go.RowKit
namespace Tr
def Le:Tr->Prop
 | lf a=>a.length<=128
 | nd b c=>b.Le/\c.Le
def Full.le:∀ {b:Tr},b.Full->b.Le
 | lf c,a=>a.2
 | nd d e,a=>⟨Full.le a.1,Full.le a.2⟩
def Near.le {b:Tr} (a:Near b):b.Le:=by
 rcases a with a |⟨c,rfl,a⟩;exact a.le;simp only [Le];omega
def Ok.le {a:Tr} (b:a.Ok):a.Le:=by
 cases a with
 | lf c=>exact b.2
 | nd d e=>exact Full.le b.2
def Ok.de {a:Tr} (b:a.Ok):a.Avl:=by
 cases a with
 | lf c=>trivial
 | nd d e=>exact b.1
def ht_lv:∀a:Tr,a.ht+1<=a.lv
 | lf d=>zAs _
 | nd b c=>by have e:=ht_lv b;have f:=ht_lv c;simp only [ht,lv];omega
end Tr
def lH (x y:Int) (gb:Nat):List Value:= [.int .i64 (-1),.int .i64 (-1),.int .i64 0,.int .i64 x,.int .i64 y,.int .i64 0,.int .i64 0,.pointer (some gb)]
def ndL (b f a n e c d:Int):List Value:= [.int .i64 b,.int .i64 f,.int .i64 a,.int .i64 n,.int .i64 e,.int .i64 c,.int .i64 d,.pointer none]
def At8 (xs:List Value) (k:Nat) (b:List Value):Prop:=b.length=8/\∀a,a < 8->xs[k*8+a]?=b[a]?
def At8.get {xs k b} (c:At8 xs k b) (a) (d:a < 8):xs[k*8+a]?=b[a]?:=c.2 a d
def At8.lt {xs k n a} (b:At8 xs k a) (f:xs.length=n*8):k < n:=by
 have c:=b.2 7 oM;have d:7 < a.length:=by rw [b.1];omega
 rw [zAa d] at c;obtain ⟨e,_⟩:=zAc.1 c;omega
def At8.set {xs k a} (c:At8 xs k a) {j} (l:j < 8) (v):At8 (xs.set (k*8+j) v) k (a.set j v):=by
 refine ⟨by rw [zAt];exact c.1,λd i=>?_⟩;have b:=c.2 d i;by_cases f:d=j
 .subst f;have e:d < a.length:=(by rw [c.1];omega);rw [zAa e] at b;obtain ⟨g,_⟩:=zAc.1 b;rw [zDq g,zDq e]
 rw [zDr oM,zDr oM];exact b
def At8.ac {xs k a b} (c:At8 xs a b) (g:a≠k) {j} (f:j < 8) (v):At8 (xs.set (k*8+j) v) a b:=by
 refine ⟨c.1,λe d=>?_⟩;rw [zDr oM];exact c.2 e d
def At8.dp {xs f b} (a:At8 xs f b) (j):At8 (xs++j) f b:=by
 refine ⟨a.1,λc e=>?_⟩;have d:=a.2 c e;have g:c < b.length:=by rw [a.1];omega
 rw [zAa g] at d;obtain ⟨i,_⟩:=zAc.1 d;rw [zAn i];exact a.2 c e
def At8.new {xs n a} (c:xs.length=n*8) (b:a.length=8):At8 (xs++a) n a:=by
 refine ⟨b,λe d=>?_⟩;rw [zAo oM,c,zDP]
def At8.ex {xs k n} (D:xs.length=n*8) (C:k < n):∃c d e f g i j l,At8 xs k [c,d,e,f,g,i,j,l]:=by
 have a:∀b,b < 8->∃B,xs[k*8+b]?=some B:=λb z=>⟨_,zAa oM⟩;obtain ⟨c,m⟩:=a 0 oM;obtain ⟨d,o⟩:=a 1 oM;obtain ⟨e,p⟩:=a 2 oM;obtain ⟨f,q⟩:=a 3 oM;obtain ⟨g,r⟩:=a 4 oM;obtain ⟨i,s⟩:=a 5 oM;obtain ⟨j,t⟩:=a 6 oM;obtain ⟨l,u⟩:=a 7 oM;refine ⟨c,d,e,f,g,i,j,l,rfl,λb z=>?_⟩;rcases b with _ | _ | _ | _ | _ | _ | _ | _ | b;exact m;exact o;exact p;exact q;exact r;exact s;exact t;exact u;omega
def But8 (k:Nat) (xs c:List Value):Prop:=∀a b,a≠k->At8 xs a b->At8 c a b
def But8.refl (k xs):But8 k xs xs:=λ_ _ _ a=>a
def But8.trans {k xs d e} (i:But8 k xs d) (g:But8 k d e):But8 k xs e:=λc a b f=>g c a b (i c a b f)
def But8.set (k xs) {j} (b:j < 8) (v):But8 k xs (xs.set (k*8+j) v):=λe d c a=>a.ac c b v
inductive LT where
 | lf (k g:Nat) (b:List Bool)
 | nd (k:Nat) (l r:LT)
namespace LT
def num:LT->Nat
 | lf k _ _=>k
 | nd k _ _=>k
def er:LT->Tr
 | lf _ _ a=>.lf a
 | nd _ b c=>.nd b.er c.er
def nums:LT->List Nat
 | lf k _ _=> [k]
 | nd k a b=>k::(a.nums++b.nums)
def blks:LT->List Nat
 | lf _ a _=> [a]
 | nd _ b c=>b.blks++c.blks
abbrev bits (a:LT):List Bool:=a.er.bits
abbrev len (a:LT):Nat:=a.er.bits.length
abbrev on (a:LT):Nat:=a.er.bits.count true
abbrev ht (a:LT):Nat:=a.er.ht
def cells:LT->List Value
 | lf _ g c=>lH (c.length:Int) ((c.count true:Nat):Int) g
 | nd _ a b=>ndL (a.num:Int) (b.num:Int) ((max a.ht b.ht+1:Nat):Int) ((a.len+b.len:Nat):Int) ((a.on+b.on:Nat):Int) (a.len:Int) (a.on:Int)
def In (w:World) (xs:List Value):LT->Prop
 | lf k b a=>At8 xs k (cells (lf k b a))/\Bk w b 250 (dL a)
 | nd k c d=>At8 xs k (cells (nd k c d))/\In w xs c/\In w xs d
def In.at {w xs} {a:LT} (b:a.In w xs):At8 xs a.num a.cells:=by
 cases a with
 | lf k d c=>exact b.1
 | nd k e f=>exact b.1
def num_mem (a:LT):a.num∈a.nums:=by
 cases a <;> simp [num,nums]
def In.keep {w w':World} {xs l:List Value}:∀ {g:LT},g.In w xs->(∀b,b∈g.nums->∀d,At8 xs b d->At8 l b d)->(∀a,a∈g.blks->∀d,Bk w a 250 d->Bk w' a 250 d)->g.In w' l
 | lf k a m,c,e,f=>⟨e k (by simp [nums]) _ c.1,f a (by simp [blks]) _ c.2⟩
 | nd k o p,c,e,f=>⟨e k (by simp [nums]) _ c.1,In.keep c.2.1 (λb j=>e b (by simp [nums,j])) (λa i=>f a (by simp [blks,i])),In.keep c.2.2 (λb j=>e b (by simp [nums,j])) (λa i=>f a (by simp [blks,i]))⟩
def In.a {w:World} {xs:List Value}:∀ {d:LT},d.In w xs->∀c,c∈d.blks->∃e,Bk w c 250 e
 | lf k c f,b,x,a=>by simp only [blks,zDa] at a;subst a;exact ⟨_,b.2⟩
 | nd k g i,b,x,a=>by simp only [blks,zCp] at a;rcases a with a | a;exact In.a b.2.1 x a;exact In.a b.2.2 x a
def len_nd (k) (a b:LT):(nd k a b).len=a.len+b.len:=by simp [len,er,Tr.bits]
def on_nd (k) (a b:LT):(nd k a b).on=a.on+b.on:=by simp [on,er,Tr.bits]
def on_le (a:LT):a.on<=a.len:=zBv
end LT
def xA (a b:Int) (e n f:Nat) (c d:Int) (g:Option Addr):List Value:= [.int .i64 a,.int .i64 b,.int .i64 e,.int .i64 n,.int .i64 f,.int .i64 c,.int .i64 d,.pointer g]
def LT.R (b:LT):∃d e f g l,b.cells=xA d e b.ht b.len b.on f g l:=by
 cases b with
 | lf k o m=>exact ⟨_,_,_,_,_,rfl⟩
 | nd k a c=>
  have i:=LT.len_nd k a c;have j:=LT.on_nd k a c;exact ⟨a.num,c.num,a.len,a.on,none,by rw [i,j];rfl⟩
def aJB (b:World->World->Prop) (a:Value->World->Prop):Prop:=∀v w w',a v w->b w w'->a v w'
def jN (a:World->World->Prop) (b):aJB a (is b):=λ_ _ _ c _=>c
def lE (a:World->World->Prop):aJB a cO:=λ_ _ _ _ _=>trivial
def dI {e:World->World->Prop} {c} (f:∀d∈c,aJB e d):∀b v w w',Vs c b v w->e w w'->Vs c b v w':=by
 intro b v w w' a g;unfold Vs at a⊢;rw [zAb] at a⊢;rcases hl:c[b]? with _ | d;rw [hl] at a;exact a;rw [hl] at a;exact f d (zAd hl) v w w' a g
def mO {ga A c Af cf N M w} (a:Bk w ga 183 #[.slice A N c,.slice Af M cf,(268435456:Int)]) (i:N<=1048576) (g:M<=N):
 Calls prog 158 #[ga] w λb w'=>b=.returned (.int .i64 (N - M:Nat))/\Below w.heap.size w w':=by
 have d:w.cell? ga=some (.slice A N c):=(a.cell 0).trans rfl;have e:w.cell? ⟨ga,1,none⟩=some (.slice Af M cf):=(a.cell 1).trans rfl;have f:IntKind.i64.wrap (N -M)=((N - M:Nat):Int):=zu
 clear a;go_enter func158,ntmps158;go_wp2;go_quiet (fail);go_wp2;go_ret;exact ⟨fM oM,km bR _⟩
def oP (o ga) {A c} (g i) {N} (tk w) (q:Bk w ga 183 #[.slice A N c,.slice g 0 i,(268435456:Int)]) (B:w.ownsRow o 4 1 (.slice A N c) N (tk.map Value.bool)) (hB:o<=w.heap.size) (an:N<=1000000):
 Calls prog 103 #[ga] w λL w'=>L=.returned (.tuple #[(N:Int),o0])/\Keep (λb=>b=ga∨(Value.slice A N c).ownBlock=some b) w w'/\∃s,Bk w' ga 183 #[s,.slice g 0 i,(268435456:Int)]/\w'.ownsRow o 4 1 s (N+1) ((tk++ [true]).map Value.bool)/\(s.ownBlock=(Value.slice A N c).ownBlock∨∃O,s.ownBlock=some O/\w.heap.size<=O):=by
 obtain ⟨af,a5,ac,ad,ae⟩:=info_parts nE;have ao:=q.lt;obtain ⟨f,Y,X⟩:=hqq3 q B (bC B q dC);clear q B;go_enter func103,ntmps103;go_wp2;refine wp_region_any kR ?_;refine aQ (S:=(Grow)) (V:=(Vs [is ga,is (N:Int),is ga,is ga,is (.pointer (some ⟨ga,2,none⟩)),is (.int .i64 268435456),is (.bool false),is (.bool false)])) [10,11,12,13,14,15,16,9] _ rfl kR bR (λ_ _=>Grow.trans) (dI tA0) ?_ ?_
 .refine aL ?_;refine pH 0 (.pointer (some ga)) ?_;refine sC (λ_ d a _ _ _ e _ _ _ u=>?_) ?_
  .have aj:_=_:=e 0 10 kR rfl;replace a:(Grow) w d:=gD a;go_simp;refine (mO (ga:=ga) (A:=A) (c:=c) (Af:=g) (cf:=i) (N:=N) (M:=0) (w:=d) (f.out.below a f.out.lt) oM oM).mono ?_;rintro L au ⟨rfl,a4⟩;exact u _ _ a4 rfl
  refine pH 0 (.pointer (some ga)) ?_;refine pV 2 12 ?_;refine pV 3 13 ?_;refine pL 4 14 (λd a=>have a:(Grow) w d:=gD a;(((f.out.below a f.out.lt).cell 2).trans rfl:d.cell? ⟨ga,2,none⟩=some (.int .i64 268435456))) ?_;refine sC (λ_ _ _ _ _ _ e _ _ _ u=>?_) ?_
  .have ak:_=_:=e 1 11 kR rfl;have al:_=_:=e 5 15 kR rfl;have ap:((N:Int)==268435456)=false:=(by simp;omega);go_simp;exact u _ _ bR (by first | rfl | simp [is] |(simp [is];omega))
  refine pV 6 16 ?_;exact aB
 .intro a2 m a e;replace a:(Grow) w m:=gD a;have a1:a2 (.tmp 9)=.bool false:=e 7 9 rfl;simp only [zqq];rw [a1];clear e;have l:=f.out.below a f.out.lt;have ab:=Below.size a;have T:=aP Y.out a;have a0:m.cell? ⟨ga,1,none⟩=some (.slice g 0 i):=(l.cell 1).trans rfl;have J:m.cell? ga=some (.slice A N c):=(l.cell 0).trans rfl;have a3:=l.frozen 0;have R:ga < m.heap.size:=oM;obtain ⟨t,E,I⟩:=hqq3 a l T;clear a l T;generalize m=W2 at E ab J a0 a3 t R I⊢;have ag:=(zEw W2 (Obj.cells #[true] 4) ⟨ga,0,none⟩ R).trans J;go_wp2_with (at_builtin;refine bP _ rfl (.tmp 53) (.tmp 54) _ rfl o 4 af (.bool false) 1 1 underlying131 a5 ac ad ae rfl dC (.slice A N c) N _ rfl I.out rfl rfl (by simp [Value.oneCell']) (by unfold maxLen;omega) oM oM ?_;intro ar d C z aq P;have r:=E.out.grown z X.out;obtain ⟨Z,W,U,H⟩:=hqq4 C z P r;have ai:d.cell? ga=some (.slice A N c):=(r.cell 0).trans rfl;have am:=r.frozen 0;obtain ⟨D,K,rfl,a9⟩:=aR C;clear C z P r a9);go_ret2;have aa:=ka (F:=λb=>b=ga∨(Value.slice A N c).ownBlock=some b) (ke _ d) (p:=ga) (.inl (.inl rfl)) (.slice D (N+1) K);have a7:Keep (λb=>b=ga∨(Value.slice A N c).ownBlock=some b) w W2:=kF t.out;have a8:=a7.grown W.out (λk a6=>.inl (.inr a6));refine ⟨rfl,a8.trans' aa (λb _ j=>j),_,H.out.set 0 _,?_,?_⟩;have:=aC (w':=d.setCell ga (.slice D (N+1) K)) Z.out λb ah _ Q=>Q.m (Bk.ne Q H.out dC) _;simpa using this;rcases U.out with j | j;exact .inl j;exact .inr ⟨_,j,by have:=t.out.size;omega⟩
def OwnF (F:Nat->Prop) (v:Value):Prop:=∀a,v.ownBlock=some a->F a
def Gw (F:Nat->Prop) (n:Nat) (a:Nat):Prop:=F a∨n<=a
def Gw.keep {F w w1 b} (c:Keep F w w1) (k:Keep (Gw F w.heap.size) w1 b):Keep F w b:=c.trans' k λd e a=>by
 rcases a with a | a;exact a;omega
def OwnF.mono {F G v} (b:OwnF F v) (k:∀a,F a->G a):OwnF G v:=λa c=>k a (b a c)
def OwnF.slice {F b e n c} (d:F b):OwnF F (.slice (some ⟨b,e,none⟩) n c):=λf a=>by
 injection a with a;rw [<-a];exact d
def OwnF.at {F a d n b} (c:OwnF F (.slice (some ⟨a,d,none⟩) n b)):F a:=c a rfl
def ArenaE (w:World) (F:Nat->Prop) (ga:Nat) (tk:List Bool) (fr:List Nat):Prop:=
 F ga/\∃b d a c,Bk w ga 183 #[.slice b tk.length d,.slice a fr.length c,(268435456:Int)]/\w.ownsRow 0 4 1 (.slice b tk.length d) tk.length (tk.map Value.bool)/\w.ownsRow 0 3 1 (.slice a fr.length c) fr.length (fr.map sv)/\OwnF F (.slice b tk.length d)/\OwnF F (.slice a fr.length c)
def aMP {w:World} {c n m a b:Nat} {d:TypeId} {A:Option Addr} {xs:List Value} (e:w.ownsRow c d a (.slice A n b) n xs) (r:m<=n) (u:0 < n):w.ownsRow c d a (.slice A m b) m (xs.take (m*a)):=by
 rcases e.2 with ⟨f,g⟩|⟨j,cap,i,f,g,l,t,o,p,q⟩;omega
 .injection f with h8 h9 h10;subst h8 h10;have s:m*a<=n*a:=zEk _ r;refine ⟨by rw [zAj,e.1];omega,.inr ⟨j,b,i,rfl,g,l,by omega,o,p,?_⟩⟩;rw [<-q,zEy,zCu s]
def aMQ {w:World} {d n j b:Nat} {e:TypeId} {A:Option Addr} {xs:List Value} (f:w.ownsRow d e j (.slice A n b) n xs):n<=b/\b<=maxLen:=by
 rcases f.2 with ⟨a,c⟩|⟨m,cap,l,a,c,o,g,i,p,q⟩;injection a with _ _ a;subst a;subst c;exact ⟨zAs _,zAp _⟩;injection a with _ _ a;subst a;exact ⟨g,i⟩
def ArenaE.b {w w' F ga tk fr} (e:ArenaE w F ga tk fr) (k:Vis w w'):ArenaE w' F ga tk fr:=by
 obtain ⟨f,b,d,a,c,g,i,j,l,m⟩:=e;exact ⟨f,b,d,a,c,k.d g dC dC,k.own i dC dC,k.own j dC dC,l,m⟩
def ArenaE.mono {w F G ga tk fr} (l:ArenaE w F ga tk fr) (k:∀a,a < w.heap.size->F a->G a):ArenaE w G ga tk fr:=by
 obtain ⟨m,g,j,f,i,c,d,e,o,p⟩:=l;exact ⟨k _ c.lt m,g,j,f,i,c,d,e,λa b=>k a (d.lt a b).2 (o a b),λa b=>k a (e.lt a b).2 (p a b)⟩
def ArenaE.keep {w w' F G ga tk fr} (r:ArenaE w F ga tk fr) (k:Keep G w w') (e:∀a l c,l∈ [183,4,3]->Bk w a l c->F a->¬G a):ArenaE w' F ga tk fr:=by
 obtain ⟨f,o,q,m,p,g,s,t,i,j⟩:=r;refine ⟨f,o,q,m,p,k.d g (e _ _ _ dC g f),aC s λa c d b=>k.d b (e _ _ _ dC b (i a d)),aC t λa c d b=>k.d b (e _ _ _ dC b (j a d)),i,j⟩
def yF {F ga k tk fr w} (aa:ArenaE w F ga tk (fr++ [k])) (ah:k < tk.length) (ht:tk.length<=1000000) (X:fr.length < tk.length):
 Calls prog 103 #[ga] w λj w'=>j=.returned (.tuple #[(k:Int),o0])/\ArenaE w' F ga (tk.set k true) fr/\Keep F w w':=by
 obtain ⟨T,A,B,a7,f,e,u,r,a2,a1⟩:=aa;obtain ⟨t,J⟩:=eqx tk.length;obtain ⟨a,q⟩:=eqx fr.length;have a0:(fr++ [k]).length=a+1:=by simp [q]
 rw [a0] at e r a1;rw [J] at e u a2 ht ah X;rw [q] at X;obtain ⟨gt,au,E,_,ag⟩:=kj u oM;injection E with E _ hcc;subst E hcc;obtain ⟨d,aq,H,_,Z⟩:=kj r oM;injection H with H _ hcc2;subst H hcc2;have aF:=aMQ r;have a3:=aMP (m:=a) r oM oM;have Y:((fr++ [k]).map sv).take (a*1)=fr.map sv:=by
  have:(fr.map sv).length=a:=by rw [zBc,q]
  rw [zAz,zBl,<-this,List.take_left]
 rw [Y] at a3;have P:w.cell? ⟨d,a,none⟩=some (.int .i64 k):=by refine (kh r a oM).trans ?_;rw [zAz,zAo (by simp [q]),zBc,q,zDK];rfl
 obtain ⟨D,a6⟩:∃D,tk[k]?=some D:=⟨_,zAa oM⟩;have R:w.cell? ⟨gt,k,none⟩=some (.bool D):=by refine (kh u k oM).trans ?_;rw [zAf,a6];rfl
 have a5:ga≠gt:=λj=>bC u e dC (by rw [j];rfl);have aG:ga≠d:=λj=>bC r e dC (by rw [j];rfl);have af:∃C,Bk w gt 4 C:=by
  rcases u.2 with ⟨i,_⟩|⟨aE,cap,C,i,_,ab,_⟩
  .cases i
  injection i with i _ _;injection i with i;injection i with i _;subst i;exact ⟨C,ab⟩
 obtain ⟨C,W⟩:=af;have aJ:=e.lt;clear r Y a0 a6;go_enter func103,ntmps103;go_wp2;refine wp_region_any kR<|aQ (S:=(Grow)) (V:=(Vs [is ga,is (.int .i64 (t -(a+1):Nat)),is ga,is ga,is (.pointer (some ⟨ga,2,none⟩)),is (.int .i64 268435456),is (.bool false),is (.bool false)])) [10,11,12,13,14,15,16,9] _ rfl kR bR (λ_ _=>Grow.trans) (dI tA0) ?_ ?_
 .refine aL<|pH 0 (.pointer (some ga))<|sC (λ_ z b _ _ _ s _ _ _ I=>?_) ?_
  .have ax:_=_:=s 0 10 kR rfl;replace b:(Grow) w z:=gD b;go_simp;refine (mO (ga:=ga) (A:=(some ⟨gt,0,none⟩)) (c:=B) (Af:=(some ⟨d,0,none⟩)) (cf:=f) (N:=t) (M:=(a+1)) (w:=z) (e.below b e.lt) oM oM).mono ?_;rintro j aT ⟨rfl,K⟩;exact I _ _ K rfl
  refine pH 0 (.pointer (some ga))<|pV 2 12<|pV 3 13<|pL 4 14 (λz b=>have b:(Grow) w z:=gD b;(((e.below b e.lt).cell 2).trans rfl:z.cell? ⟨ga,2,none⟩=some (.int .i64 268435456))) ?_;refine sC (λ_ _ _ _ _ _ s _ _ _ I=>?_) ?_
  .have ay:_=_:=s 1 11 kR rfl;have az:_=_:=s 5 15 kR rfl;have aM:(((t -(a+1):Nat):Int)==268435456)=false:=(by rw [zCb];omega);go_simp;exact I _ _ bR (by first | rfl | simp [is] |(simp [is];omega))
  refine pV 6 16 ?_;exact aB
 .intro a9 g b s;replace b:(Grow) w g:=gD b;have a8:a9 (.tmp 9)=.bool false:=s 7 9 rfl;simp only [zqq];rw [a8];clear s;have o:=e.below b e.lt;have L:=W.below b W.lt;have ao:g.cell? ga=some (.slice (some gt) t B):=(o.cell 0).trans rfl;have ap:g.cell? ⟨ga,1,none⟩=some (.slice (some d) (a+1) f):=(o.cell 1).trans rfl;have aA:=o.frozen 1;have aD:=L.frozen k;have ar:g.cell? ⟨d,a,none⟩=some (.int .i64 k):=(b.cell (p:=⟨d,a,none⟩) Z).trans P;have av:g.cell? ⟨gt,k,none⟩=some (.bool D):=(b.cell (p:=⟨gt,k,none⟩) ag).trans R;have aH:=o.lt;have aK:=L.lt;have aI:d < g.heap.size:=zAl Z b.size;have am:=aP u b;have aj:=aP a3 b;have aw:IntKind.i64.wrap ((a+1:Nat) - 1)=(a:Int):=zu;have aN:(a:Int) < (a+1:Nat):=oM;have aO:(k:Int) < t:=oM;have aR:(a:Int)<=f:=oM;have aS:((a+1:Nat):Int) > 0:=oM;clear P R;go_wp2_with fail;go_ret2;have ai:Keep F w g:=kF b;have ad:=o.set 1 (.slice (some d) a f);have K:=ad.m (p:=⟨gt,k,none⟩) a5 (.bool true);have an:=aC (w':=g.setCell ⟨ga,1,none⟩ (.slice (some d) a f)) am λO Q _ l=>l.m (Bk.ne l o dC) _;have a4:=(kk an k (.bool true)).1;have ak:=aC (w':=g.setCell ⟨ga,1,none⟩ (.slice (some d) a f)) aj λO Q _ l=>l.m (Bk.ne l o dC) _;have ae:=L.m (p:=⟨ga,1,none⟩) (λj=>a5 j.symm) (.slice (some d) a f);have al:=aC (w':=(g.setCell ⟨ga,1,none⟩ (.slice (some d) a f)).setCell ⟨gt,k,none⟩ (.bool true)) ak λO Q _ l=>l.m (Bk.ne l ae dC) _;have U:F gt:=OwnF.at a2;have ac:F d:=OwnF.at a1;rw [show ((tk.map Value.bool).set k (.bool true))=(tk.set k true).map Value.bool by rw [zGi]] at a4;refine ⟨rfl,⟨T,some ⟨gt,0,none⟩,B,some ⟨d,0,none⟩,f,?_,?_,?_,?_,?_⟩,?_⟩;rw [zAt,J,q];exact K;rw [zAt,J];exact a4;rw [q];exact al;rw [zAt];exact OwnF.slice U;exact OwnF.slice ac;exact ka (F:=F) (ka (F:=F) ai (p:=⟨ga,1,none⟩) (.inl T) _) (p:=⟨gt,k,none⟩) (.inl U) _
def qW {F} {ga k:Nat} {tk fr w} (j:ArenaE w F ga tk fr) (d:tk[k]?=some true):
 Calls prog 245 #[ga,(k:Int)] w λi w'=>i=.returned (.bool true)/\w=w':=by
 obtain ⟨z,A,g,q,s,a,b,p,o,m⟩:=j;obtain ⟨l,_⟩:=zAc.1 d;obtain ⟨e,f⟩:=eqx tk.length;rw [f] at a b l;obtain ⟨gt,u,c,_,C⟩:=kj b oM;injection c with c _ hcc;subst c hcc;have r:w.cell? ga=some (.slice (some gt) e g):=(a.cell 0).trans rfl;have t:w.cell? ⟨gt,k,none⟩=some (.bool true):=by refine (kh b k oM).trans ?_;rw [zAf,d];rfl
 have B:=a.lt;have E:(k:Int) < e:=oM;have D:decide ((k:Int)>=0)=true:=zs
 clear a b p o m f d;go_enter func245,ntmps245;go_wp2_with fail;go_ret;exact ⟨rfl,rfl⟩
def aFN {F} {ga gs k:Nat} {tk fr w} (j:ArenaE w F ga tk fr) (H:tk[k]?=some true) (r:Bk w gs 3 #[(k:Int)]) (ar:fr.length<=1000000):
 Calls prog 223 #[ga,.slice (some gs) 1 1] w λi w'=>i=.returned (.int .i64 0)/\ArenaE w' (Gw F w.heap.size) ga (tk.set k false) (fr++ [k])/\Keep F w w':=by
 have a9:=qW j H;obtain ⟨a6,A,z,l,o,b,g,T,R,Q⟩:=j;obtain ⟨ay,_⟩:=zAc.1 H;obtain ⟨aJ,av,aG,aH,aI⟩:=info_parts gI;obtain ⟨m,N⟩:=eqx tk.length;obtain ⟨c,P⟩:=eqx fr.length;rw [P] at b T Q ar;rw [N] at b g R ay;obtain ⟨gt,aK,M,_,aT⟩:=kj g oM;injection M with M _ hcc;subst M hcc;have al:w.cell? ⟨gt,k,none⟩=some (.bool true):=by refine (kh g k oM).trans ?_;rw [zAf,H];rfl
 have aF:ga≠gt:=λi=>bC g b dC (by rw [i];rfl);have au:∃C,Bk w gt 4 C:=by
  rcases g.2 with ⟨a,_⟩|⟨a5,cap,C,a,_,L,_⟩
  .cases a
  injection a with a _ _;injection a with a;injection a with a _;subst a;exact ⟨C,L⟩
 obtain ⟨C,E⟩:=au;have ap:=E.frozen k;have ak:w.cell? ga=some (.slice (some gt) m z):=(b.cell 0).trans rfl;have am:w.cell? gs=some (.int .i64 (k:Int)):=(r.cell 0).trans rfl;have aQ:=b.lt;have aS:=r.lt;have aU:(k:Int) < (m:Int):=oM;have aE:gs≠gt:=Bk.ne r E dC;obtain ⟨d,f⟩:=eqx (w.setCell ⟨gt,k,none⟩ (.bool false));have q:Bk d ga 183 #[.slice (some gt) m z,.slice l c o,(268435456:Int)]:=by rw [<-f];exact b.m (p:=⟨gt,k,none⟩) aF _
 have V:Bk d gs 3 #[(k:Int)]:=by rw [<-f];exact r.m (p:=⟨gt,k,none⟩) aE _
 have ac:d.ownsRow 0 4 1 (.slice (some gt) m z) m ((tk.set k false).map Value.bool):=by rw [<-f,zGi];exact (kk g k (.bool false)).1
 have U:d.ownsRow 0 3 1 (.slice l c o) c (fr.map sv):=by rw [<-f];exact aC T λu a3 _ e=>e.m (p:=⟨gt,k,none⟩) (Bk.ne e E dC) _
 have a7:F gt:=OwnF.at R;have aa:Keep F w d:=by rw [<-f];exact ka (F:=F) (ke _ _) (p:=⟨gt,k,none⟩) (.inl a7) _
 have aM:d.cell? ⟨ga,1,none⟩=some (.slice l c o):=(q.cell 1).trans rfl;have aP:=q.lt;have ab:Rd d d.heap.size 1 (some ⟨gs,0,none⟩) 1 [.int .i64 (k:Int)]:=⟨rfl,λ_=>⟨gs,0,rfl,V.lt,λI aW ad=>by
  rw [zBi,V.cell];rcases I with _ | I;exact ad
  .simp at ad⟩⟩
 obtain ⟨ag,a2,a1,Z,aj,ae,a0,K,X⟩:=hqq9 q ac U aa ab f Q P N;have ah:=lhd (bC U q dC);clear b g T R Q N P E r H q V ac U aa f ab;go_enter func223,ntmps223;go_wp2_with fail;refine wp_loop_rounds 2 ?_;rw [rounds_succ];go_wp2_with fail;refine a9.mono ?_;rintro i w1 ⟨rfl,rfl⟩;clear a9;go_wp2_with fail;rw [ae.out];clear ak am al ap;rw [rounds_succ];go_wp2_with (at_builtin;refine bE _ rfl (.tmp 48) (.tmp 49) _ rfl 0 3 aJ (.int .i64 0) 1 8 underlying27 av aG aH aI rfl dC (.slice l c o) c _ rfl a1.out _ _ _ _ _ rfl aj.out (by simp [Value.oneCell']) (by unfold maxLen;omega) oM (zAp _) ?_;intro aX W S O a8;have D:=ag.out.grown O ah.out;have aO:=D.frozen 1;have aN:=D.cell 1;obtain ⟨ai,Y,af,J⟩:=hqq4 S O a8 D;obtain ⟨s,B,rfl,az⟩:=aR S;clear S O a8 D az);go_ret;have ax:Keep F w W:=Z.out.grown Y.out (λI aw=>.inl (a0.out I aw));have aq:=J.out.set 1 (.slice s (c+1) B)
 have aB:=World.ownsRow.kept a2.out Y.out (by
  rcases hh:(Value.slice l c o).ownBlock with _ | x
  .right;simp [Value.ownBlock]
  .right;intro i;have an:gt=x:=(by simpa [Value.ownBlock] using i);subst an;rcases a1.out.2 with ⟨a,_⟩|⟨a5,cap,aL,a,_,L,_⟩
   .rw [a] at hh;simp [Value.ownBlock] at hh
   .rw [a] at hh;have ao:a5=gt:=(by simpa [Value.ownBlock] using hh);subst ao;exact bC a2.out (t:=3) L dC rfl)
 have aD:=aC (w':=W.setCell ⟨ga,1,none⟩ (.slice s (c+1) B)) aB λu a3 _ e=>e.m (Bk.ne e J.out dC) _;have aA:=aC (w':=W.setCell ⟨ga,1,none⟩ (.slice s (c+1) B)) ai.out λu a3 _ e=>e.m (Bk.ne e J.out dC) _;have aV:=Z.out.size;refine ⟨rfl,⟨.inl a6,some ⟨gt,0,none⟩,z,s,B,?_,?_,?_,?_,?_⟩,?_⟩;rw [zAt,X.out,zAi,K.out];exact aq;rw [zAt,X.out];exact aD;rw [zAi,K.out,zAz];exact aA;exact OwnF.slice (.inl a7);intro u b;rw [zAi,K.out] at b;rcases af.out with j | j;exact .inl (a0.out u (j.symm.trans b));have a4:=j.symm.trans b;injection a4 with a4;exact .inr oM;exact ka (F:=F) ax (p:=⟨ga,1,none⟩) (.inl a6) _
def fE {w e n j d f c xs} (g:w.ownsRow e c j (.slice (some d) n f) n xs):∃b,Bk w d c b:=by
 rcases g.2 with ⟨a,_⟩|⟨l,cap,b,a,_,i,_⟩
 .cases a
 injection a with a _ _;injection a with a;injection a with a _;subst a;exact ⟨b,i⟩
def nZ {w e p n d b A xs f g} (o:w.ownsRow 0 e p (.slice A n d) n xs) (a:(Value.slice A n d).ownBlock=some b) (m:Bk w b f g):f=e:=by
 rcases o.2 with ⟨c,_⟩|⟨j,cap,q,c,_,l,_⟩
 .rw [c] at a;cases a
 rw [c] at a;injection a with a;have i:j=b:=a;subst i;exact (aU m l).1
def ArenaE.own {w F ga tk fr} (q:ArenaE w F ga tk fr):∃d:Nat->Prop,(∀a,d a->F a)/\(∀a c o,d a->Bk w a c o->c=183∨c=4∨c=3)/\(∀a,d a->a < w.heap.size)/\ArenaE w d ga tk fr:=by
 obtain ⟨r,l,p,j,m,e,f,g,s,t⟩:=q;refine ⟨λa=>a=ga∨(Value.slice l tk.length p).ownBlock=some a∨(Value.slice j fr.length m).ownBlock=some a,λa b=>?_,λa c o b i=>?_,λa b=>?_,.inl rfl,l,p,j,m,e,f,g,λa b=>.inr (.inl b),λa b=>.inr (.inr b)⟩;rcases b with rfl | b | b;exact r;exact s a b;exact t a b;rcases b with rfl | b | b;exact .inl (aU i e).1;exact .inr (.inl (nZ f b i));exact .inr (.inr (nZ g b i));rcases b with rfl | b | b;exact e.lt;exact (f.lt a b).2;exact (g.lt a b).2
structure TR (w:World) (gt ga:Nat) (A:Option Addr) (cap n:Nat) (xs:List Value) (rt v:Int):Prop where
 a:Bk w gt 233 #[ga,.slice A n cap,(rt:Int),(v:Int)]
 row:w.ownsRow 0 236 8 (.slice A n cap) n xs
section
variable {w w' : World} {F G : Nat -> Prop} {gt ga cap n : Nat} {A : Option Addr} {xs : List Value} {tk : List Bool} {fr : List Nat} {rt v : Int}
def TR.b (b:TR w gt ga A cap n xs rt v) (k:Vis w w'):∃a,TR w' gt ga A cap n xs rt a:=by
 obtain ⟨a,c⟩:=k.tree b.a;exact ⟨a,c,k.own b.row dC dC⟩
def TR.same (d:TR w gt ga A cap n xs rt v) (k:∀a c b,c∈ [233,236]->Bk w a c b->Bk w' a c b):TR w' gt ga A cap n xs rt v:=
 ⟨k _ _ _ dC d.a,aC d.row λa b _ e=>k _ _ _ dC e⟩
def TR.below (b:TR w gt ga A cap n xs rt v) (k:Below w.heap.size w w'):TR w' gt ga A cap n xs rt v:=b.same λc e d _ a=>a.below k a.lt
def TR.len (a:TR w gt ga A cap n xs rt v):xs.length=n*8:=a.row.1
def TR.ex (c:TR w gt ga A cap n xs rt v) (e:0 < n):∃gl a,A=some ⟨gl,0,none⟩/\Bk w gl 236 a:=by
 obtain ⟨gl,f,b,_,_⟩:=kj c.row e;injection b with b _ h2;subst b;obtain ⟨a,d⟩:=fE c.row;exact ⟨gl,a,rfl,d⟩
def TR.ab (a:TR w gt ga A cap n xs rt v) (c):TR (w.setCell ⟨gt,3,none⟩ (.int .i64 c)) gt ga A cap n xs rt c:=
 ⟨a.a.set 3 _,aC a.row λd e _ b=>b.m (p:=⟨gt,3,none⟩) (Bk.ne b a.a dC) _⟩
def TR.ao (a:TR w gt ga A cap n xs rt v) (c):TR (w.setCell ⟨gt,2,none⟩ (.int .i64 c)) gt ga A cap n xs c v:=
 ⟨a.a.set 2 _,aC a.row λd e _ b=>b.m (p:=⟨gt,2,none⟩) (Bk.ne b a.a dC) _⟩
def TR.c0 (a:TR w gt ga A cap n xs rt v):w.cell? gt=some (.pointer (some ga)):=(a.a.cell 0).trans rfl
def TR.c1 (a:TR w gt ga A cap n xs rt v):w.cell? ⟨gt,1,none⟩=some (.slice A n cap):=(a.a.cell 1).trans rfl
def TR.c2 (a:TR w gt ga A cap n xs rt v):w.cell? ⟨gt,2,none⟩=some (.int .i64 rt):=(a.a.cell 2).trans rfl
def TR.c3 (a:TR w gt ga A cap n xs rt v):w.cell? ⟨gt,3,none⟩=some (.int .i64 v):=(a.a.cell 3).trans rfl
def TR.at {gl k c d e f g i j l} (o:TR w gt ga (some ⟨gl,0,none⟩) cap n xs rt v) (m:At8 xs k [c,d,e,f,g,i,j,l]):
 w.cell? ⟨gl,k*8,none⟩=some c/\w.cell? ⟨gl,k*8+1,none⟩=some d/\w.cell? ⟨gl,k*8+2,none⟩=some e/\w.cell? ⟨gl,k*8+3,none⟩=some f/\w.cell? ⟨gl,k*8+4,none⟩=some g/\w.cell? ⟨gl,k*8+5,none⟩=some i/\w.cell? ⟨gl,k*8+6,none⟩=some j/\w.cell? ⟨gl,k*8+7,none⟩=some l:=by
 have q:=m.lt o.len;have a:∀b,b < 8->w.cell? ⟨gl,k*8+b,none⟩= [c,d,e,f,g,i,j,l][b]?:=λb p=>(kh o.row (k*8+b) oM).trans (m.2 b p);exact ⟨a 0 oM,a 1 oM,a 2 oM,a 3 oM,a 4 oM,a 5 oM,a 6 oM,a 7 oM⟩
def LT.In.b {a:LT} (c:a.In w xs) (k:Vis w w'):a.In w' xs:=c.keep (λ_ _ _ b=>b) λf _ e d=>k.d d dC dC
def LT.In.below {b:LT} (d:b.In w xs) (k:Below w.heap.size w w'):b.In w' xs:=d.keep (λ_ _ _ c=>c) λf _ e a=>a.below k a.lt
structure TX (w:World) (F:Nat->Prop) (gt ga:Nat) (A:Option Addr) (cap n:Nat) (xs:List Value) (tk:List Bool) (fr:List Nat) (rt v:Int):Prop where
 W:F gt
 rd:TR w gt ga A cap n xs rt v
 own:OwnF F (.slice A n cap)
 V:ArenaE w F ga tk fr
 Y:tk.length=n
 au:∀k,k < n->tk[k]?=some (decide (k∉fr))
def TX.b (a:TX w F gt ga A cap n xs tk fr rt v) (k:Vis w w'):∃b,TX w' F gt ga A cap n xs tk fr rt b:=by
 obtain ⟨b,c⟩:=a.rd.b k;exact ⟨b,a.W,c,a.own,a.V.b k,a.Y,a.au⟩
def TX.mono (a:TX w F gt ga A cap n xs tk fr rt v) (k:∀b,b < w.heap.size->F b->G b):TX w G gt ga A cap n xs tk fr rt v:=
 ⟨k _ a.rd.a.lt a.W,a.rd,λb c=>k b (a.rd.row.lt b c).2 (a.own b c),a.V.mono k,a.Y,a.au⟩
def TX.keep (a:TX w F gt ga A cap n xs tk fr rt v) (k:Keep G w w') (e:∀b d c,d∈ [233,183,236,4,3]->Bk w b d c->F b->¬G b):TX w' F gt ga A cap n xs tk fr rt v:=
 ⟨a.W,⟨k.d a.rd.a (e _ _ _ dC a.rd.a a.W),aC a.rd.row λb c g f=>k.d f (e _ _ _ dC f (a.own b g))⟩,a.own,a.V.keep k λb d c ht=>e b d c (by simp at ht;rcases ht with rfl | rfl | rfl <;> decide),a.Y,a.au⟩
def TX.below (b:TX w F gt ga A cap n xs tk fr rt v) (k:Below w.heap.size w w'):TX w' F gt ga A cap n xs tk fr rt v:=b.keep (G:=λ_=>False) (kF k) λ_ _ _ _ _ _ a=>a
def TX.bq (b:TX w F gt ga A cap n xs tk fr rt v) (d i):ArenaE (w.setCell ⟨gt,d,none⟩ i) F ga tk fr:=
 b.V.keep (G:=λa=>a=gt) (ka (F:=λa=>a=gt) (ke _ _) (p:=⟨gt,d,none⟩) (.inl rfl) _) λa l j c g _ e=>by have f:a=gt:=e;subst f;rw [(aU g b.rd.a).1] at c;exact absurd c dC
def TX.ab (a:TX w F gt ga A cap n xs tk fr rt v) (b):TX (w.setCell ⟨gt,3,none⟩ (.int .i64 b)) F gt ga A cap n xs tk fr rt b:=⟨a.W,a.rd.ab b,a.own,a.bq 3 _,a.Y,a.au⟩
def TX.ao (a:TX w F gt ga A cap n xs tk fr rt v) (b):TX (w.setCell ⟨gt,2,none⟩ (.int .i64 b)) F gt ga A cap n xs tk fr b v:=⟨a.W,a.rd.ao b,a.own,a.bq 2 _,a.Y,a.au⟩
def TX.put {gl} (a:TX w F gt ga (some ⟨gl,0,none⟩) cap n xs tk fr rt v) (c d):TX (w.setCell ⟨gl,c,none⟩ d) F gt ga (some ⟨gl,0,none⟩) cap n (xs.set c d) tk fr rt v:=by
 obtain ⟨m,e⟩:=fE a.rd.row;refine ⟨a.W,⟨a.rd.a.m (p:=⟨gl,c,none⟩) (Bk.ne a.rd.a e dC) _,(kk a.rd.row c d).1⟩,a.own,a.V.keep (G:=λb=>b=gl) (ka (F:=λb=>b=gl) (ke _ _) (p:=⟨gl,c,none⟩) (.inl rfl) _) λb o l f j _ g=>?_,a.Y,a.au⟩;have i:b=gl:=g;subst i;rw [(aU j e).1] at f;exact absurd f dC
structure LK (F:Nat->Prop) (bl:List Nat) (w w':World):Prop where
 keep:Keep F w w'
 a:∀g cs,g∉bl->Bk w g 250 cs->Bk w' g 250 cs
def LK.refl (F a w):LK F a w w:=⟨ke _ _,λ_ _ _ b=>b⟩
def LK.trans {a w1} (d:LK F a w w1) (k:LK F a w1 w'):LK F a w w':=⟨d.keep.trans k.keep,λc b e f=>k.a c b e (d.a c b e f)⟩
def LK.mono {b bl'} (c:LK F b w w') (k:∀a,a < w.heap.size->a∈b->a∈bl'):LK F bl' w w':=⟨c.keep,λa e g d=>c.a a e (λf=>g (k a d.lt f)) d⟩
def LK.below {bl} (k:Below w.heap.size w w'):LK F bl w w':=⟨kF k,λc b _ a=>a.below k a.lt⟩
def LK.of {d} (k:Keep G w w') (g:∀a,a < w.heap.size->G a->F a) (i:∀a b,G a->¬Bk w a 250 b):LK F d w w':=⟨k.mono g,λf b _ c=>k.d c λe=>i f b e c⟩
def LK.set {a i d e bl} (j:Bk w a d e) (ht:d≠250) (l:F a) (m):LK F bl w (w.setCell ⟨a,i,none⟩ m):=
 LK.of (G:=λb=>b=a) (ka (F:=λb=>b=a) (ke _ _) (p:=⟨a,i,none⟩) (.inl rfl) _) (λb _ c=>by rw [c];exact l) λb o c g=>by have f:b=a:=c;subst f;exact ht (aU j g).1
def LK.one {a} (k:Keep (λc=>c=a) w w') (e:F a):LK F [a] w w':=⟨k.mono λc _ b=>by rw [b];exact e,λx g f d=>k.d d λb=>f (by simp [show x=a from b])⟩
def ButL (c:List Nat) (xs d:List Value):Prop:=∀a b,a∉c->At8 xs a b->At8 d a b
def ButL.refl (b xs):ButL b xs xs:=λ_ _ _ a=>a
def ButL.trans {a e f} (j:ButL a xs e) (i:ButL a e f):ButL a xs f:=λd b c g=>i d b c (j d b c g)
def But8.l {k l a} (e:But8 k xs a) (f:k∈l):ButL l xs a:=λi c g b=>e i c (λd=>g (d ▸ f)) b
def LT.In.but {c:LT} {f e g} (l:c.In w xs) (k:ButL f xs g) (j:LK F e w w') (m:∀b,b∈c.nums->b∉f) (o:∀a,a∈c.blks->a∉e):c.In w' g:=
 l.keep (λb r d i=>k b d (m b r) i) λa p d q=>j.a a d (o a p) q
end
def RowS (gl cl n k:Nat) (xs:List Value) (gb:Nat) (x y:Int) (w:World):Prop:=∃a,w.ownsRow 0 236 8 (.slice (some gl) n cl) n a/\At8 a k (lH x y gb)/\But8 k xs a
section
variable {gl cl n k gb : Nat} {xs : List Value} {x y : Int} {w w' : World}
def RowS.grow (b:RowS gl cl n k xs gb x y w) (a:Below w.heap.size w w'):RowS gl cl n k xs gb x y w':=by
 obtain ⟨f,c,d,e⟩:=b;exact ⟨f,aP c a,d,e⟩
def RowS.di (b:RowS gl cl n k xs gb x y w) (a):RowS gl cl n k xs gb a y (w.setCell ⟨gl,k*8+3,none⟩ (.int .i64 a)):=by
 obtain ⟨f,c,d,e⟩:=b;exact ⟨_,(kk c (k*8+3) (.int .i64 a)).1,d.set oM _,e.trans (But8.set k f oM _)⟩
def RowS.dh (b:RowS gl cl n k xs gb x y w) (a):RowS gl cl n k xs gb x a (w.setCell ⟨gl,k*8+4,none⟩ (.int .i64 a)):=by
 obtain ⟨f,c,d,e⟩:=b;exact ⟨_,(kk c (k*8+4) (.int .i64 a)).1,d.set oM _,e.trans (But8.set k f oM _)⟩
def RowS.lt (a:RowS gl cl n k xs gb x y w):gl < w.heap.size:=by
 obtain ⟨e,b,c,d⟩:=a;exact (World.ownsRow.lt b gl rfl).2
def RowS.cw {a b c} (e:RowS gl cl n k xs gb x y w) (g:Bk w a b c) (i:236≠b):a≠gl:=by
 obtain ⟨m,f,j,l⟩:=e;exact λd=>bC f g i (by rw [d];rfl)
def RowS.cell (d:RowS gl cl n k xs gb x y w) (a) (e:a < 8):w.cell? ⟨gl,k*8+a,none⟩=(lH x y gb)[a]?:=by
 obtain ⟨g,b,c,f⟩:=d;have:=c.lt b.1;exact (kh b (k*8+a) oM).trans (c.2 a e)
def RowS.c3 (a:RowS gl cl n k xs gb x y w):w.cell? ⟨gl,k*8+3,none⟩=some (.int .i64 x):=a.cell 3 oM
def RowS.c4 (a:RowS gl cl n k xs gb x y w):w.cell? ⟨gl,k*8+4,none⟩=some (.int .i64 y):=a.cell 4 oM
def RowS.c7 (a:RowS gl cl n k xs gb x y w):w.cell? ⟨gl,k*8+7,none⟩=some (.pointer (some gb)):=a.cell 7 oM
def RowS.fz (b:RowS gl cl n k xs gb x y w) (a):w.frozen? ⟨gl,a,none⟩=false:=by
 obtain ⟨f,c,d,e⟩:=b;exact zFR c a
end
def aO4 (a:World) (gl cl n k:Nat) (xs:List Value) (gb:Nat) (w1:World):Prop:=Keep (λb=>b=gl) a w1/\∃x y,RowS gl cl n k xs gb x y w1
def aO2 (gl cl n k:Nat) (xs:List Value) (gb:Nat) (d e:Int) (b:Nat) (w1 a:World):Prop:=
 (b=14->Keep (λc=>c=gl) w1 a/\∀x y,RowS gl cl n k xs gb x y w1->RowS gl cl n k xs gb d y a)/\(b=17->Keep (λc=>c=gl) w1 a/\∀x y,RowS gl cl n k xs gb x y w1->RowS gl cl n k xs gb x e a)/\(b≠14->b≠17->Grow w1 a)
def cV {gl cl n k xs gb d e b w1 c} (g:b≠14) (i:b≠17) (f:Grow w1 c):aO2 gl cl n k xs gb d e b w1 c:=⟨λa=>absurd a g,λa=>absurd a i,λ_ _=>f⟩
def aI8 {g w1 m gl cl n k xs gb c o p} (q:aO4 g gl cl n k xs gb w1) (f:aO2 gl cl n k xs gb o p c w1 m):aO4 g gl cl n k xs gb m:=by
 obtain ⟨a,x,y,b⟩:=q;by_cases i:c=14;obtain ⟨d,e⟩:=f.1 i;exact ⟨a.trans d,_,_,e x y b⟩;by_cases j:c=17;obtain ⟨d,e⟩:=f.2.1 j;exact ⟨a.trans d,_,_,e x y b⟩;have l:=f.2.2 i j;exact ⟨a.trans (kF l),x,y,b.grow l⟩
def N3 (gl cl n k:Nat) (xs:List Value) (gb:Nat) (a:Int):Value->World->Prop:=λ_ w1=>∃y,RowS gl cl n k xs gb a y w1
def N4 (gl cl n k:Nat) (xs:List Value) (gb:Nat) (a:Int):Value->World->Prop:=λ_ w1=>∃x,RowS gl cl n k xs gb x a w1
def aLC {gt ga gl cl n k gb xs rt v r w} (ht:TR w gt ga (some ⟨gl,0,none⟩) cl n xs rt v) {W X} (E:At8 xs k (lH W X gb)) (J:Bk w gb 250 (dL r)) (a1:r.length<=128):
 Calls prog 256 #[gt,(k:Int)] w λf w'=>f=.returned (.tuple #[])/\Keep (λu=>u=gl) w w'/\RowS gl cl n k xs gb (r.length:Int) ((r.count true:Nat):Int) w':=by
 obtain ⟨q,O⟩:∃q:Int,(r.length:Int)=q:=⟨_,rfl⟩;obtain ⟨o,P⟩:∃o:Int,((r.count true:Nat):Int)=o:=⟨_,rfl⟩;rw [O,P];have L:RowS gl cl n k xs gb W X w:=⟨xs,ht.row,E,But8.refl _ _⟩;have a7:=ht.c1;have a8:=(ht.at E).2.2.2.2.2.2.2;have ay:(k:Int) < n:=zj (E.lt ht.len)
 have ax:=L.lt;have Q:=L.cw J dC;clear ht E;go_enter func256,ntmps256;go_wp2;refine wp_region_any kR<|tU (C:=(aO4 w gl cl n k xs gb)) (S:=(aO2 gl cl n k xs gb q o)) (U:=(λ_ _=>True)) (V:=(Vs [is (.pointer (some ⟨gl,k*8,none⟩)),is (.pointer (some ⟨gl,k*8,none⟩)),is (.pointer (some ⟨gl,k*8,none⟩)),is (.pointer (some ⟨gl,k*8,none⟩)),is (.pointer (some ⟨gl,k*8+7,none⟩)),is gb,is (.int .i64 q),is (.pointer (some ⟨gl,k*8,none⟩)),is (.pointer (some ⟨gl,k*8,none⟩)),is (.pointer (some ⟨gl,k*8+7,none⟩)),is gb,is (.int .i64 o),is (.pointer (some ⟨gl,k*8,none⟩)),is (.pointer (some ⟨gl,k*8+3,none⟩)),N3 gl cl n k xs gb q,is (.pointer (some ⟨gl,k*8,none⟩)),is (.pointer (some ⟨gl,k*8+4,none⟩)),N4 gl cl n k xs gb o])) [18,19,20,21,22,23,24,25,26,27,28,29,30,31,32,33] _ rfl kR ⟨⟨rfl,rfl,rfl,zAs _,λ_ _ _=>rfl⟩,_,_,L⟩ (λ_=>trivial) (λM w1 a4 z k=>aI8 z k) (λ_ _ _ _ _ _ _ _ _=>trivial) ?_ ?_ ?_;intro T M v w1 a4 R aw e av k;rcases T with _ | _ | _ | _ | _ | _ | _ | _ | _ | _ | _ | _ | _ | _ | _ | _ | _ | _ | T;exact e;exact e;exact e;exact e;exact e;exact e;exact e;exact e;exact e;exact e;exact e;exact e;exact e;exact e;obtain ⟨y,e⟩:=e;by_cases D:M=17;exact ⟨_,(k.2.1 D).2 _ _ e⟩;exact ⟨_,RowS.grow e (k.2.2 (λf=>R f.symm) D)⟩;exact e;exact e;obtain ⟨x,e⟩:=e;by_cases B:M=14;exact ⟨_,(k.1 B).2 _ _ e⟩;exact ⟨_,RowS.grow e (k.2.2 B (λf=>R f.symm))⟩;exact trivial
 .refine aL<|sC3 (λs _ a _ _ _ t _ _ _ _ b=>?_) ?_
  .obtain ⟨g,i,j,d⟩:=a;have H:s (.tmp 4)=.pointer (some ⟨gl,k*8,none⟩):=t 4 kR;go_simp;exact b _ _ (cV dC dC bR) rfl
  refine sC3 (λs _ a _ _ _ t _ _ _ _ b=>?_) ?_
  .obtain ⟨g,i,j,d⟩:=a;have H:s (.tmp 4)=.pointer (some ⟨gl,k*8,none⟩):=t 4 kR;go_simp;exact b _ _ (cV dC dC bR) rfl
  refine sC3 (λs _ a _ _ _ t _ _ _ _ b=>?_) ?_
  .obtain ⟨g,i,j,d⟩:=a;have H:s (.tmp 4)=.pointer (some ⟨gl,k*8,none⟩):=t 4 kR;go_simp;exact b _ _ (cV dC dC bR) rfl
  refine sC3 (λ_ _ a _ _ _ _ c _ _ _ b=>?_) ?_
  .obtain ⟨g,i,j,d⟩:=a;have ad:_=_:=c 2 20 kR rfl;go_simp;exact b _ _ (cV dC dC bR) rfl
  refine sC3 (λ_ _ a _ _ _ _ c _ _ _ b=>?_) ?_
  .obtain ⟨g,i,j,d⟩:=a;have ae:_=_:=c 3 21 kR rfl;go_simp;exact b _ _ (cV dC dC bR) rfl
  refine sC3 (λ_ m a _ _ _ _ c _ _ _ b=>?_) ?_
  .obtain ⟨g,i,j,d⟩:=a;have af:_=_:=c 4 22 kR rfl;have Y:m.cell? ⟨gl,k*8+7,none⟩=some (.pointer (some gb)):=d.c7;go_simp;exact b _ _ (cV dC dC bR) rfl
  refine sC3 (λ_ m a _ _ _ _ c _ _ _ b=>?_) ?_
  .obtain ⟨g,i,j,d⟩:=a;have ag:_=_:=c 5 23 kR rfl;have K:=g.d J (λf=>Q f);go_simp;refine (kT (gb:=gb) (l:=r) (w:=m) K).mono ?_;rintro f a5 ⟨rfl,rfl⟩;exact b _ _ (cV dC dC bR) (cS O)
  refine sC3 (λs _ a _ _ _ t _ _ _ _ b=>?_) ?_
  .obtain ⟨g,i,j,d⟩:=a;have H:s (.tmp 4)=.pointer (some ⟨gl,k*8,none⟩):=t 4 kR;go_simp;exact b _ _ (cV dC dC bR) rfl
  refine sC3 (λ_ _ a _ _ _ _ c _ _ _ b=>?_) ?_
  .obtain ⟨g,i,j,d⟩:=a;have ai:_=_:=c 7 25 kR rfl;go_simp;exact b _ _ (cV dC dC bR) rfl
  refine sC3 (λ_ _ a _ _ _ _ c _ _ _ b=>?_) ?_
  .obtain ⟨g,i,j,d⟩:=a;have aj:_=_:=c 8 26 kR rfl;go_simp;exact b _ _ (cV dC dC bR) rfl
  refine sC3 (λ_ m a _ _ _ _ c _ _ _ b=>?_) ?_
  .obtain ⟨g,i,j,d⟩:=a;have ak:_=_:=c 9 27 kR rfl;have Y:m.cell? ⟨gl,k*8+7,none⟩=some (.pointer (some gb)):=d.c7;go_simp;exact b _ _ (cV dC dC bR) rfl
  refine sC3 (λ_ m a _ _ _ _ c _ _ _ b=>?_) ?_
  .obtain ⟨g,i,j,d⟩:=a;have al:_=_:=c 10 28 kR rfl;have K:=g.d J (λf=>Q f);go_simp;refine (aBX (gb:=gb) (l:=r) (w:=m) K a1).mono ?_;rintro f a5 ⟨rfl,rfl⟩;exact b _ _ (cV dC dC bR) (cS P)
  refine sC3 (λ_ _ a _ _ _ _ c _ _ _ b=>?_) ?_
  .obtain ⟨g,i,j,d⟩:=a;have ab:_=_:=c 0 18 kR rfl;go_simp;exact b _ _ (cV dC dC bR) rfl
  refine sC3 (λ_ _ a _ _ _ _ c _ _ _ b=>?_) ?_
  .obtain ⟨g,i,j,d⟩:=a;have an:_=_:=c 12 30 kR rfl;go_simp;exact b _ _ (cV dC dC bR) rfl
  refine sC3 (λ_ m a _ _ _ _ c _ _ _ b=>?_) ?_
  .obtain ⟨g,i,j,d⟩:=a;have ao:_=_:=c 13 31 kR rfl;have ah:_=_:=c 6 24 kR rfl;have a9:m.cell? ⟨gl,k*8+3,none⟩=some (.int .i64 i):=d.c3;have ar:=d.fz (k*8+3);go_simp;exact b (.bool true) _ ⟨λ_=>⟨ka (F:=λu=>u=gl) (ke _ _) (p:=⟨gl,k*8+3,none⟩) (.inl rfl) _,λx y z=>z.di q⟩,λf=>absurd f dC,λf=>absurd rfl f⟩ ⟨j,d.di q⟩
  refine sC3 (λ_ _ a _ _ _ _ c _ _ _ b=>?_) ?_
  .obtain ⟨g,i,j,d⟩:=a;have ac:_=_:=c 1 19 kR rfl;go_simp;exact b _ _ (cV dC dC bR) rfl
  refine sC3 (λ_ _ a _ _ _ _ c _ _ _ b=>?_) ?_
  .obtain ⟨g,i,j,d⟩:=a;have ap:_=_:=c 15 32 kR rfl;go_simp;exact b _ _ (cV dC dC bR) rfl
  refine sC3 (λ_ m a _ _ _ _ c _ _ _ b=>?_) ?_
  .obtain ⟨g,i,j,d⟩:=a;have aq:_=_:=c 16 33 kR rfl;have am:_=_:=c 11 29 kR rfl;have aa:m.cell? ⟨gl,k*8+4,none⟩=some (.int .i64 j):=d.c4;have au:=d.fz (k*8+4);go_simp;exact b (.bool true) _ ⟨λf=>absurd f dC,λ_=>⟨ka (F:=λu=>u=gl) (ke _ _) (p:=⟨gl,k*8+4,none⟩) (.inl rfl) _,λx y z=>z.dh o⟩,λ_ f=>absurd rfl f⟩ ⟨i,d.dh o⟩
  exact aB
 .intro s N a c I;obtain ⟨a0,_⟩:=a;obtain ⟨_,a6,B⟩:∃v,N3 gl cl n k xs gb q v N:=I 14 dC;obtain ⟨_,az,D⟩:∃v,N4 gl cl n k xs gb o v N:=I 17 dC;have Z:RowS gl cl n k xs gb q o N:=(by have a2:=B.c4.symm.trans D.c4;have a3:a6=o:=(by simpa using a2);rw [<-a3];exact B);simp only [zqq];clear c I;go_wp2;exact bodyPost_ret (results_none rfl _ _ _) rfl ⟨rfl,a0,Z⟩
def RowN (gl cl n k:Nat) (xs:List Value) (b:List Value) (w:World):Prop:=∃a,w.ownsRow 0 236 8 (.slice (some gl) n cl) n a/\At8 a k b/\But8 k xs a
def RowN.put {gl cl n k xs b w} (d:RowN gl cl n k xs b w) {j} (c:j < 8) (a):RowN gl cl n k xs (b.set j a) (w.setCell ⟨gl,k*8+j,none⟩ a):=by
 obtain ⟨i,e,f,g⟩:=d;exact ⟨_,(kk e (k*8+j) a).1,f.set c _,g.trans (But8.set k i c _)⟩
def RowN.grow {gl cl n k xs a w w'} (c:RowN gl cl n k xs a w) (b:Below w.heap.size w w'):RowN gl cl n k xs a w':=by
 obtain ⟨g,d,e,f⟩:=c;exact ⟨g,aP d b,e,f⟩
def RowN.drew {gl cl n k xs a w} (b:RowN gl cl n k xs a w):RowN gl cl n k xs a w.drew:=b
def aK9 {w:World} {b:Obj} {c:TypeId} {a:Array Value} {d:Nat} (e:(w.alloc b).heap.size=d):Bk ((w.alloc b).alloc (.cells a c)).drew d c a:=by
 subst e;exact (kd (w.alloc b) c a).drew
def aLB {gt ga gl cl n k s t b c d o e q:Nat} {xs} {rt v:Int} {w} (ht:TR w gt ga (some ⟨gl,0,none⟩) cl n xs rt v) {I N O L M:Int} (K:At8 xs k (ndL s t I N O L M)) {P Q R S T z U V:Int} {a3 a4} (E:At8 xs s [.int .i64 P,.int .i64 Q,.int .i64 b,.int .i64 d,.int .i64 e,.int .i64 R,.int .i64 S,.pointer a3]) (H:At8 xs t [.int .i64 T,.int .i64 z,.int .i64 c,.int .i64 o,.int .i64 q,.int .i64 U,.int .i64 V,.pointer a4]) (b1:b<=1000000) (b2:c<=1000000) (aB:d<=1000000) (aC:o<=1000000) (aD:e<=1000000) (aE:q<=1000000):
 Calls prog 256 #[gt,(k:Int)] w λa7 w'=>a7=.returned (.tuple #[])/\Keep (λa=>a=gl) w w'/\RowN gl cl n k xs (ndL s t ((max b c+1:Nat):Int) ((d+o:Nat):Int) ((e+q:Nat):Int) d e) w':=by
 have aF:=ht.c1;obtain ⟨k0,ah,Y,Z,a0,a1,a2,ai⟩:=ht.at K;obtain ⟨aj,ak,al,am,an,ao,ap,aq⟩:=ht.at E;obtain ⟨ar,au,av,aw,ax,ay,az,aA⟩:=ht.at H;have aN:(k:Int) < n:=zj (K.lt ht.len)
 have aO:(s:Int) < n:=zj (E.lt ht.len)
 have aQ:(t:Int) < n:=zj (H.lt ht.len)
 obtain ⟨aG,D⟩:=fE ht.row;have m:=D.lt;have aM:=ht.a.lt;have aL:gt≠gl:=Bk.ne ht.a D dC;have a8:=λr=>D.frozen r;clear E H;go_enter func256,ntmps256;go_upto_region 3 with fail;go_cut [5,6] from 34 (λx y u=>∃i l,x=.pointer (some ⟨i,0,none⟩)/\y=.pointer (some ⟨l,0,none⟩)/\Bk u i 236 #[(P:Int),(Q:Int),(b:Int),(d:Int),(e:Int),(R:Int),(S:Int),.pointer a3]/\Bk u l 236 #[(T:Int),(z:Int),(c:Int),(o:Int),(q:Int),(U:Int),(V:Int),.pointer a4]/\Below w.heap.size w u/\w.heap.size<=i/\w.heap.size<=l)
 case first=>
  go_region
  .go_wp2_with fail;go_meet;exact ⟨w.heap.size,w.heap.size+1,rfl,rfl,((kd w _ _).alloc _).drew,aK9 (sZ0 w _),((bR.alloc nL _).alloc (by rw [sZ0];omega) _).drew,zAs _,zDT _⟩
  .go_wp2_with fail;go_meet;exact ⟨w.heap.size+1,w.heap.size,rfl,rfl,aK9 (sZ0 w _),((kd w _ _).alloc _).drew,((bR.alloc nL _).alloc (by rw [sZ0];omega) _).drew,zDT _,zAs _⟩
 case rest=>
 obtain ⟨i,l,rfl,rfl,B,C,f,aI,aJ⟩:=hcut;have ae:RowN gl cl n k xs (ndL s t I N O L M) wc:=⟨xs,aP ht.row f,K,But8.refl _ _⟩;have aR:i≠gl:=oM;have aS:l≠gl:=oM;have aK:gl < wc.heap.size:=zAl m f.size;have aH:∀r,wc.frozen? ⟨gl,r,none⟩=false:=λr=>(D.below f m).frozen r;have aY:wc.cell? ⟨i,2,none⟩=some (.int .i64 b):=(B.cell 2).trans rfl;have aZ:wc.cell? ⟨i,3,none⟩=some (.int .i64 d):=(B.cell 3).trans rfl;have b0:wc.cell? ⟨i,4,none⟩=some (.int .i64 e):=(B.cell 4).trans rfl;have b3:wc.cell? ⟨l,2,none⟩=some (.int .i64 c):=(C.cell 2).trans rfl;have b4:wc.cell? ⟨l,3,none⟩=some (.int .i64 o):=(C.cell 3).trans rfl;have b5:wc.cell? ⟨l,4,none⟩=some (.int .i64 q):=(C.cell 4).trans rfl;have aT:wc.cell? ⟨gl,k*8+2,none⟩=some (.int .i64 I):=(f.cell (by exact m)).trans Y;have aU:wc.cell? ⟨gl,k*8+3,none⟩=some (.int .i64 N):=(f.cell (by exact m)).trans Z;have aV:wc.cell? ⟨gl,k*8+4,none⟩=some (.int .i64 O):=(f.cell (by exact m)).trans a0;have aW:wc.cell? ⟨gl,k*8+5,none⟩=some (.int .i64 L):=(f.cell (by exact m)).trans a1;have aX:wc.cell? ⟨gl,k*8+6,none⟩=some (.int .i64 M):=(f.cell (by exact m)).trans a2;clear B C k0 ah Y Z a0 a1 a2 ai aj ak al am an ao ap aq ar au av aw ax ay az aA a8;obtain ⟨g,J⟩:∃g:Nat,max b c+1=g:=⟨_,rfl⟩;go_upto_region 4 with fail;go_cut [60] from 54 (λv u=>u=wc.setCell ⟨gl,k*8+2,none⟩ (.int .i64 g))
 case first=>
  rcases zBe b c with ad | ad
  .have a9:((c:Nat):Int)+1=g:=(zj J);have aa:max (b:Int) (c:Int)=(c:Int):=oM;go_wp2_with fail
   all_goals (go_meet;rfl)
  .have a9:((b:Nat):Int)+1=g:=(zj J);have aa:max (b:Int) (c:Int)=(b:Int):=oM;go_wp2_with fail
   all_goals (go_meet;rfl)
 case rest=>
 subst hcut;have af:=ae.put (j:=2) oM (.int .i64 g);have ab:Keep (λa=>a=gl) w (wc.setCell ⟨gl,k*8+2,none⟩ (.int .i64 g)):=ka (F:=λa=>a=gl) (kF f) (p:=⟨gl,k*8+2,none⟩) (.inl rfl) _;go_wp2_with fail
 go_region
 have ag:=(af.put (j:=3) oM (.int .i64 ((d:Int)+o))).put (j:=4) oM (.int .i64 ((e:Int)+q));have ac:=ka (F:=λa=>a=gl) (ka (F:=λa=>a=gl) ab (p:=⟨gl,k*8+3,none⟩) (.inl rfl) (.int .i64 ((d:Int)+o))) (p:=⟨gl,k*8+4,none⟩) (.inl rfl) (.int .i64 ((e:Int)+q));go_wp2_with fail
 go_region
 have X:=(ag.drew.put (j:=5) oM (.int .i64 d)).put (j:=6) oM (.int .i64 e);have W:=ka (F:=λa=>a=gl) (ka (F:=λa=>a=gl) ac.drew (p:=⟨gl,k*8+5,none⟩) (.inl rfl) (.int .i64 d)) (p:=⟨gl,k*8+6,none⟩) (.inl rfl) (.int .i64 e);have a6:=X.drew;have a5:=W.drew;clear X W;go_wp2;have z:((max b c+1:Nat):Int)=g:=zj J
 refine bodyPost_end (results_none rfl _ _ _) rfl ?_;rw [z,Int.natCast_add,Int.natCast_add];exact ⟨rfl,a5,a6⟩
end Go.Proofs.YtknjfpcdhdmghaaGreatDoor
