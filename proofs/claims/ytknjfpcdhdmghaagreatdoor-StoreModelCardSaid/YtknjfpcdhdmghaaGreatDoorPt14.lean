/- Lemmas of the walk. Conditions: each its own. -/
import Derived.Test.YtknjfpcdhdmghaaGreatDoorPt11
import Derived.Test.YtknjfpcdhdmghaaGreatDoorPt12
set_option linter.all false
set_option maxRecDepth 100000
set_option maxHeartbeats 4000000
open Go.Proofs.Tryz
namespace Go.Proofs.YtknjfpcdhdmghaaGreatDoor
section
open Go.RowKit
def bF (a lv:Nat):Nat:=a / 2 ^(9 - lv)
def iF (a lv:Nat):Bool:=decide (a / 2 ^(8 - lv)% 2=1)
def fW {s:Nat} (a) (f:s < 257):
 Calls prog 127 #[(s:Int)] a λb w'=>b=.returned (.bool true)/\Below a.heap.size a w':=by
 have c:(0:Int)<=s:=oM;have e:(s:Int) < 257:=oM;go_enter func127,ntmps127;go_wp2;go_ret;exact ⟨rfl,kg _ _⟩
def aE3 (b a:Nat):(b:Int)/ 2 ^ a=(b / 2 ^ a:Nat):=by push_cast;rfl
def aPp {a:Nat} (c:a < 257):bits .and .i64 (a:Int) 1=((a % 2:Nat):Int):=by
 have b:=(bits_nat .i64 10 dC (λn e b=>by rw [wI0];omega) a 1 oM oM).1;rw [show ((1:Nat):Int)=1 from rfl] at b;rw [b,zEN]
def mI {s:Nat} (lv:Nat) (a) (e:s < 257) (i:lv<=9):
 Calls prog 181 #[(s:Int),(lv:Int)] a λb w'=>b=.returned (.int .i64 (bF s lv:Nat))/\Below a.heap.size a w':=by
 have f:¬((lv:Int) < 0):=oM;have g:¬((lv:Int) > 9):=oM;go_enter func181,ntmps181;go_wp2_with fail;refine (fW _ e).mono ?_;rintro b w1 ⟨rfl,c⟩;go_wp2_with fail;go_ret;exact ⟨fM (aE3 _ _),c⟩
def oQ {s lv:Nat} (a) (f:s < 257) (r:lv < 9):
 Calls prog 184 #[(s:Int),(lv:Int)] a λc w'=>c=.returned (.bool (iF s lv))/\Below a.heap.size a w':=by
 have p:¬((lv:Int) < 0):=oM;have q:¬((lv:Int)>=9):=oM;go_enter func184,ntmps184;go_wp2_with fail;refine (fW _ f).mono ?_;rintro c w1 ⟨rfl,k⟩;go_wp2_with fail;go_ret;refine ⟨bH ?_,k⟩;have o:s / 2 ^(8 - lv) < 257:=zDF (zDZ _ _) f;rw [aE3,aPp o];unfold iF;generalize s / 2 ^(8 - lv)% 2=i;by_cases e:i=1;subst e;rfl
 .have j:((i:Int)==1)=false:=zt;rw [j];simp [e]
@[irreducible] def tcells (b:List Nat):Array Value:=Array.ofFn (n:=258) λg=>.int .i64 (((if g.val < 257 then b.count g.val else b.length):Nat):Int)
def eH (b) {a} (c:a < 257):(tcells b)[a]?=some (.int .i64 (b.count a:Nat)):=by
 unfold tcells;rw [zGe,dif_pos oM,zBx c]
def jE (a):(tcells a)[257]?=some (.int .i64 (a.length:Nat)):=by
 unfold tcells;rw [zGe,dif_pos oM];rfl
def fI (a):(tcells a).size=258:=by unfold tcells;simp
def sZ (c b) (j:c.size=258) (g:∀e,e < 257->c[e]?=some (.int .i64 (b.count e:Nat))) (i:c[257]?=some (.int .i64 (b.length:Nat))):c=tcells b:=by
 apply zEO;intro f;rcases zBe f 257 with a | a
 .rw [g f a,eH b a]
 .rcases zFL a with a | a
  .rw [<-a,i,jE]
  .rw [zDn oM,zDn (by rw [fI];omega)]
def aF6 (b) {a} (g:a < 257):((tcells b).setIfInBounds a (.int .i64 (((b.count a+1:Nat)):Int))).setIfInBounds 257 (.int .i64 (b.length+1:Nat))=tcells (b++ [a]):=by
 apply sZ
 .simp [fI]
 .intro e f;rw [zCe oM];by_cases c:a=e
  .subst c;rw [zDt (by rw [fI];omega)];simp
  rw [zCe c,eH b f];have: [a].count e=0:=(by simp [c]);rw [zCc,this];rfl
 .rw [zDt (by simp [fI])];simp
def yE {gt:Nat} {L} (a:Nat) {w} (b:Bk w gt 207 (tcells L)) (f:a < 257):
 Calls prog 199 #[gt,(a:Int)] w λc w'=>c=.returned (.int .i64 (L.count a:Nat))/\Below w.heap.size w w':=by
 go_enter func199,ntmps199;go_wp2_with fail;refine (fW _ f).mono ?_;rintro c w1 ⟨rfl,e⟩;have g:w1.cell? ⟨gt,a,none⟩=some (.int .i64 (L.count a:Nat)):=((b.below e b.lt).cell a).trans (eH L f);have i:¬((a:Int) < 0):=oM;have j:((a:Int) < 257):=oM;clear b;go_wp2_with fail;go_ret;exact ⟨rfl,e⟩
def yB (c:List Nat) (b:Nat):c.countP (λa=>decide (a < b+1))=c.countP (λa=>decide (a < b))+c.count b:=by
 induction c with
 | nil=>rfl
 | cons a l i=>
  rw [zBn,zBn,zDg,i];by_cases g:a < b;have e:a < b+1:=oM;have f:a≠b:=oM;simp [g,e,f];omega
  .by_cases e:a=b;subst e;simp;omega
   .have f:¬a < b+1:=oM;simp [g,e,f]
def lR {gt:Nat} {L} {s:Nat} {w} (k:Bk w gt 207 (tcells L)) (A:s < 257) (u:L.length<=1000):
 Calls prog 185 #[gt,(s:Int)] w λj w'=>j=.returned (.int .i64 (L.countP (λb=>decide (b < s)):Nat))/\Below w.heap.size w w':=by
 have B:max (s:Int) 0=(s:Int):=oM;have C:min (s:Int) 257=(s:Int):=oM;go_enter func185,ntmps185;go_wp2_with fail;go_loopw [5,10] (λx i wr=>∃a:Nat,a<=s/\i=.int .i64 a/\x=.int .i64 (L.countP (λb=>decide (b < a)):Nat)/\Below w.heap.size w wr) (λ_ i _=>s -(intOf i).toNat)
 case atStart=>exact ⟨0,by omega,rfl,by simp,kg _ _⟩
 case round=>
  obtain ⟨a,y,rfl,rfl,c⟩:=hrel;have v:=c.size;by_cases z:a < s
  .go_wp2_with fail;refine (yE a (k.below c k.lt) oM).mono ?_;rintro j w1 ⟨rfl,q⟩;have r:=c.trans (q.mono v);have g:=yB L a;have o:L.countP (λb=>decide (b < a+1))<=1000:=zAk zBh u;obtain ⟨p,e⟩:∃p,L.countP (λb=>decide (b < a))=p:=⟨_,rfl⟩;obtain ⟨D,f⟩:=eqx (L.count a);rw [g] at o;rw [e,f] at g o;rw [f]
   try rw [e]
   clear e f;go_wp2_with fail;go_roundw
   case rel=>exact ⟨a+1,by omega,by go_num,by rw [g];exact cS oM,r⟩
   case measure=>exact zr
  .have t:a=s:=oM;subst t;go_wp2_with fail;go_ret;exact ⟨rfl,c⟩
def vE {a:Nat} {c} {b:Nat} {y} (g:Bk y a 207 (tcells c)) (q:b < 257) (G:c.length<=1000):
 Calls prog 167 #[a,(b:Int),(1:Int)] y λB w'=>B=.returned (.int .i64 0)/\Bk w' a 207 (tcells (c++ [b]))/\Keep (λi=>i=a) y w':=by
 have u:=g;clear g;have Y:¬((b:Int) < 0):=oM;have Z:((b:Int) < 257):=oM;obtain ⟨f,o⟩:=eqx (c.count b);obtain ⟨n,s⟩:=eqx c.length;have a1:f<=1000:=by rw [<-o];exact zAk zBv G
 rw [s] at G;have C:=aF6 c q;rw [o,s] at C;go_enter func167,ntmps167;go_wp2_with fail;refine (fW _ q).mono ?_;rintro B w1 ⟨rfl,E⟩;have x:=u.below E u.lt;have K:w1.cell? ⟨a,b,none⟩=some (.int .i64 f):=by rw [<-o];exact (x.cell b).trans (eH c q)
 have L:w1.cell? ⟨a,257,none⟩=some (.int .i64 n):=by rw [<-s];exact (x.cell 257).trans (jE c)
 have a2:¬((1:Int) < -f):=oM;have a3:¬((1:Int) > 2147483648 -n):=oM;clear u;go_wp2_with fail;refine wp_region_any kR<|bM (pJ:=(λ_ t=>Bk t a 207 ((tcells c).setIfInBounds b (.int .i64 (f+1:Nat))))) [33,34,35,36,37,38,39,40,41,42,43] (λi=>i=a) 11 [5,11] [is a,is (b:Int),is a,is a,is (.pointer (some ⟨a,b,none⟩)),is (f:Int),is (.int .i64 1),is (.int .i64 (f+1:Nat)),is a,is a,is (.pointer (some ⟨a,b,none⟩)),cO] _ rfl kR kR (x) (λt a5 g _ H=>kf g H g.lt) (λ_ _ _ g I=>kf g I g.lt) tA1 ?_ ?_
 .refine aL<|pH3 0 (.pointer (some a))<|pH3 1 (.int .i64 b)<|pV3 0 33<|pV3 2 35<|pW3 3 36 1 34<|sC3 (λ_ z _ w _ _ _ e _ _ _ j=>?_) ?_
  .have k:=w rfl;have P:_=_:=e 4 37 kR rfl;have N:z.cell? ⟨a,b,none⟩=some (.int .i64 f):=(by rw [<-o];exact (k.cell b).trans (eH c q));go_simp;exact kq j rfl
  refine pH3 2 (.int .i64 1)<|sC3 (λ_ _ _ _ _ _ _ e _ _ _ j=>?_) ?_
  .have Q:_=_:=e 5 38 kR rfl;have S:_=_:=e 6 39 kR rfl;go_simp;exact j _ _ (aE bR) (cS zu)
  refine pV3 0 33<|pV3 8 41<|pW3 9 42 1 34<|sC3 (λ_ z _ w _ _ _ e _ _ _ j=>?_) ?_
  .have k:=w rfl;have U:_=_:=e 10 43 kR rfl;have T:_=_:=e 7 40 kR rfl;have O:z.cell? ⟨a,b,none⟩=some (.int .i64 f):=(by rw [<-o];exact (k.cell b).trans (eH c q));have X:=k.frozen b;go_simp;exact j (.bool true) _ (aW (ka (F:=λi=>i=a) (ke _ _) (p:=⟨a,b,none⟩) (.inl rfl) _)) (k.set b _)
  exact aB
 .intro V A v e D;replace v:Keep (λi=>i=a) w1 A:=kD v;obtain ⟨a4,r⟩:∃J,(λ_ t=>Bk t a 207 ((tcells c).setIfInBounds b (.int .i64 (f+1:Nat)))) J A:=D 11 dC;simp only [zqq];clear e D;have M:A.cell? ⟨a,257,none⟩=some (.int .i64 n):=(by refine (r.cell 257).trans ?_;rw [zCe oM,<-s];exact jE c);have W:=r.frozen 257;have a0:=r.lt;go_wp2_with fail;go_ret;refine ⟨rfl,?_,?_⟩;rw [<-C];exact r.set 257 _;exact ((kF E).trans v).setCell (.inl rfl) _
def aF5:tcells []=Tryz.zeroCells207:=by kernel_rfl
def vD {A m} (x) {B L w} (t:Rd w B 1 A m (L.map sv)) (hB:B<=w.heap.size) (O:m<=1000) (y:∀c∈L,c < 257):
 Calls prog 151 #[.slice A m x] w λg w'=>∃b,g=.returned (.tuple #[.pointer (some ⟨b,0,none⟩),o0])/\w.heap.size<=b/\Bk w' b 207 (tcells L)/\Below w.heap.size w w':=by
 have r:L.length=m:=by simpa using t.1
 have u:=hB;go_enter func151,ntmps151;go_wp2_with fail;obtain ⟨b,p⟩:=eqx w.heap.size;have D:Bk (w.alloc (.cells Tryz.zeroCells207 207)) b 207 (tcells (L.take 0)):=by rw [zDN,aF5,<-p];exact kd _ _ _
 have z:=(kg w.heap.size w).alloc nL (.cells Tryz.zeroCells207 207)
 try rw [p]
 go_loopw [12] (λk wr=>∃a:Nat,a<=m/\k=.int .i64 a/\Bk wr b 207 (tcells (L.take a))/\Below w.heap.size w wr) (λk _=>m -(intOf k).toNat)
 case atStart=>exact ⟨0,by omega,rfl,D,z⟩
 case round=>
  obtain ⟨a,N,rfl,i,e⟩:=hrel;have I:=e.size;by_cases s:a < m
  .have F:a < L.length:=(by rw [r];exact s);obtain ⟨c,f⟩:∃c,L[a]?=some c:=⟨L[a],zAa F⟩;obtain ⟨v,P,Q,rfl,M,j,E⟩:=((t.mono u).below e).get s;rw [zAf,f] at j;simp at j;subst j;have H:c < 257:=y c (zAd f);have J:L.take (a+1)=L.take a++ [c]:=(by rw [zAv,f];rfl);have K:(L.take a).length<=1000:=(by rw [zAj];omega);unfold sv at E;clear f;go_wp2_with fail;refine (vE i H K).mono ?_;rintro g w1 ⟨rfl,o,q⟩;have C:Below w.heap.size w w1:=e.trans (q.e I (λv e g=>by omega));rw [<-J] at o;clear q;go_wp2_with fail;go_roundw
   case rel=>exact ⟨a+1,by omega,by go_num,o,C⟩
   case measure=>exact zr
  .have G:a=m:=oM;subst G;rw [zAg (by rw [r];omega)] at i;go_wp2_with fail;go_ret2;exact ⟨b,rfl,by omega,i,e⟩
end
section
open Go.RowKit Go
open Go.Sort (SortedIn PermIn SWO Holds)
def pN (n:Nat) (j:n<=1000000) (a):(Instr.makeSlice 27 (.int .i64 n) (.int .i64 n)).run prog a=.ok (.slice (some a.heap.size) n n) (a.alloc (.cells (Array.replicate n (.int .i64 0)) 3)):=by
 obtain ⟨i,c,e,f,g⟩:=info_parts gI;have:=run_make (P:=prog) a 27 3 i (.int .i64 0) underlying27 c e .i64 .i64 n n oM (zFF _) (by rw [g];omega) oM;rw [this,f];have b:madeCells #[o0] n=Array.replicate n (.int .i64 0):=by apply zFs;rw [toList_madeCells_one];simp
 simp only [Value.cells,zBr,zBl];rw [b]
def jZ (n b:Nat):Array Value:=((List.range n).map λa=>Value.int .i64 (((if a < b then a else 0:Nat)):Int)).toArray
def aAC (n a):(jZ n a).size=n:=by simp [jZ]
def aGT (n):jZ n 0=Array.replicate n (.int .i64 0):=by
 apply zGk
 .simp [jZ]
 .intro c a b;simp [jZ]
def aGU {n a} (g:a < n):(jZ n a).setIfInBounds a (.int .i64 a)=jZ n (a+1):=by
 apply zGk
 .simp [jZ]
 .intro e i f;rw [Array.getElem_setIfInBounds (by simpa [jZ] using f)];by_cases b:a=e
  .subst b;simp [jZ]
  .rw [zBw b];simp only [jZ,List.getElem_toArray,zGr,zFM];by_cases c:e < a
   .rw [zBx c,zBx oM]
   .rw [zBw c,zBw oM]
def aJd (m):jZ (m+1) (m+1)=(aAb m).map (fS m):=by
 apply zGk
 .simp [jZ,aAb]
 .intro c a e;have b:c < m+1:=(by simpa [jZ] using a);simp [jZ,aAb,fS,b]
def aHW {e b c a n B} (j:Bk e b c a) (hB:B<=b) (i:a.size=n) (f:n<=maxLen):Made e B c 1 (some ⟨b,0,none⟩) n n a.toList:=by
 have g:e.ownsRow B c 1 (.slice (some b) n n) n a.toList:=⟨by simp [i],.inr ⟨b,n,a,rfl,hB,j,zAs _,f,by omega,by rw [zAg (by simp [i])]⟩⟩;exact ⟨g,Rd.s g,zAs _,f⟩
def aMJ {m} (d:Array (Fin (m+1))):(d.map (fS m)).toList=(d.toList.map (·.val)).map sv:=by
 simp [fS,sv]
def aCj {f:Array Value} {c e:Nat->Nat} {b g:Nat} (j:∀a,a < b->f[c a]?=some (.int .i64 (e a:Nat))) (o:c b < f.size) (k:∀a,a < b->c a≠c b) (p:e b=g) (a:Nat) (r:a < b+1):(f.setIfInBounds (c b) (.int .i64 g))[c a]?=some (.int .i64 (e a:Nat)):=by
 by_cases i:a=b
 .subst i;rw [zCd,zBx rfl,zBx o,p]
 rw [zCd,zBw (λq=>k a oM q.symm)];exact j a oM
structure RInv (B0:Nat) (w0:World) (m n:Nat) (l:List Nat) (gn gr gx:Nat) (wr:World) (gw g6 g7 c6 c7 wd:Nat) (d:Array (Fin (m+1))) (R:List Nat):Prop where
 wide:Bk wr gw 3 #[(wd:Int)]
 len:Bk wr gn 3 #[(n:Int)]
 box:Bk wr gr 27 #[.slice (some g6) n c6]
 U:∃cs:Array Value,Bk wr g6 3 cs/\n<=cs.size/\∀(j:Nat) u,(R.map sv)[j]?=some u->cs[j]?=some u
 next:∃cs:Array Value,Bk wr g7 3 cs/\n<=cs.size
 rows:Bk wr gx 3 (d.map (fS m))
 ok:RowsOk m d
 ap:gx≠gw/\gx≠gn/\gx≠g6/\gx≠g7/\g7≠gw/\g7≠gn/\g7≠g6/\g6≠gw/\g6≠gn
 lo:B0<=gx/\B0<=g6/\B0<=g7/\B0<=gr
 cap:n<=c6/\n<=c7
 ck:R.length=n
 co:∀r∈R,r<=1000
 rk:RankOk (aN l) (aN R) wd
 cg:1<=wd
 cf:wd<=n
 below:Below B0 w0 wr
structure SetT (B:Nat) (T:TypeId) (w w':World):Prop where
 below:Below B w w'
 other:∀b t cs,t≠T->Bk w b t cs->Bk w' b t cs
 one:∀b c,Bk w b T #[c]->∃c',Bk w' b T #[c']
def SetT.set {g i f a k} (q:Bk f a i #[k]) (r:g<=a) (e):SetT g i f (f.setCell a e):=by
 refine ⟨bR.setCell r _,λj t s ht b=>?_,λj o b=>?_⟩;exact b.m (λc=>ht (by subst c;exact (aU b q).1)) _;by_cases c:j=a;subst c;exact ⟨e,b.set 0 e⟩;exact ⟨o,b.m (p:=a) c _⟩
section
variable {B0 : Nat} {w0 : World} {m n : Nat} {l : List Nat} {gn gr gx : Nat} {wr w' : World} {gw g6 g7 c6 c7 wd : Nat} {d d' : Array (Fin (m + 1))} {R : List Nat}
def aEG {f:World} {e n:Nat} {R:List Nat} (k:R.length=n) (i:∃a:Array Value,Bk f e 3 a/\n<=a.size/\∀(b:Nat) c,(R.map sv)[b]?=some c->a[b]?=some c):Rd f f.heap.size 1 (some ⟨e,0,none⟩) n (R.map sv):=by
 obtain ⟨a,g,p,j⟩:=i;refine ⟨by simp [k],λ_=>⟨e,0,rfl,g.lt,λb c o=>?_⟩⟩;rw [zBi,g.cell];exact j b c o
def RInv.cl (a:RInv B0 w0 m n l gn gr gx wr gw g6 g7 c6 c7 wd d R) (b:Keep (λg=>g=gx) wr w'):OrdAt w' gw gn gr wd n (some ⟨g6,0,none⟩) c6 R:=by
 obtain ⟨c,e,f,p,q,r,s,t,u⟩:=a.ap;obtain ⟨i,j,k,o⟩:=a.U;exact ⟨((b.d a.wide c.symm).cell 0).trans rfl,((b.d a.len e.symm).cell 0).trans rfl,((b.d a.box (Bk.ne a.box a.rows dC)).cell 0).trans rfl,aEG a.ck ⟨i,b.d j f.symm,k,o⟩⟩
def RInv.cu (a:RInv B0 w0 m n l gn gr gx wr gw g6 g7 c6 c7 wd d R) (b:Keep (λc=>c=gx) wr w') (u:Bk w' gx 3 (d'.map (fS m))) (t:RowsOk m d'):RInv B0 w0 m n l gn gr gx w' gw g6 g7 c6 c7 wd d' R:=by
 obtain ⟨e,f,g,i,v,w,x,y,z⟩:=a.ap;obtain ⟨j,o,p,q⟩:=a.U;obtain ⟨k,r,s⟩:=a.next
 exact ⟨b.d a.wide e.symm,b.d a.len f.symm,b.d a.box (Bk.ne a.box a.rows dC),⟨j,b.d o g.symm,p,q⟩,⟨k,b.d r i.symm,s⟩,u,t,a.ap,a.lo,a.cap,a.ck,a.co,a.rk,a.cg,a.cf,
  a.below.trans (b.e (zk a.lo.1 a.rows.lt) (λc B A=>by have:=a.lo.1;omega))⟩
def RInv.bi (a:RInv B0 w0 m n l gn gr gx wr gw g6 g7 c6 c7 wd d R) (b:Keep (λe=>e=g7) wr w') (r:∃c:Array Value,Bk w' g7 3 c/\n<=c.size):RInv B0 w0 m n l gn gr gx w' gw g6 g7 c6 c7 wd d R:=by
 obtain ⟨s,t,u,f,g,i,j,v,w⟩:=a.ap;obtain ⟨c,k,o,p⟩:=a.U;obtain ⟨x,q,z⟩:=a.next
 exact ⟨b.d a.wide g.symm,b.d a.len i.symm,b.d a.box (Bk.ne a.box q dC),⟨c,b.d k j.symm,o,p⟩,r,b.d a.rows f,a.ok,a.ap,a.lo,a.cap,a.ck,a.co,a.rk,a.cg,a.cf,
  a.below.trans (b.e (zk a.lo.1 a.rows.lt) (λe A y=>by have:=a.lo.2.2.1;omega))⟩
def RInv.grow (a:RInv B0 w0 m n l gn gr gx wr gw g6 g7 c6 c7 wd d R) (c:Below wr.heap.size wr w'):RInv B0 w0 m n l gn gr gx w' gw g6 g7 c6 c7 wd d R:=
 a.bi (kF c) (by
  obtain ⟨e,b,f⟩:=a.next;exact ⟨e,b.below c b.lt,f⟩)
end
def qN {A m} (o) {B t w} (a6:Rd w B 1 A m (t.map bv)) (hB:B<=w.heap.size) (fe:m<=895):
 Calls prog 59 #[.slice A m o] w λr w'=>∃dE aw ab,IsSuf (aG t) dE/\r=.returned (.slice aw (m+1) ab)/\Made w' w.heap.size 3 1 aw (m+1) ab (dE.map sv)/\Below w.heap.size w w':=by
 have dr:t.length=m:=by simpa using a6.1
 obtain ⟨dK,cC⟩:=hqq2 a6 dr;clear a6 dr;go_enter func59,ntmps59;go_wp2_with fail;obtain ⟨n,bX⟩:=eqx (m+1);have c3:=aA2 (gs:=w.heap.size) (A:=A) (m:=m) (c:=o) (B:=w.heap.size) (t:=t) (w:=(w.alloc (.cells #[.slice A m o] 22))) 0 (kd _ _ _) ((dK.mono hB).alloc nL _) zs oM;rw [bX] at c3;have fg:n<=896:=oM;have ef:1<=n:=oM;have y:=lhd bX;clear bX;refine c3.mono ?_;clear c3;rintro r w1 ⟨bl,bE,rfl,di,d2⟩;have d3:=((kg w.heap.size w).alloc nL _).trans (d2.mono zs);obtain ⟨cw,aJ⟩:=hqq2 di d3;clear di d2 d3;go_wp2_with fail;obtain ⟨gn,b4⟩:=eqx w1.heap.size;have aE:Bk (w1.alloc (.cells #[(n:Int)] 3)) gn 3 #[(n:Int)]:=b4 ▸ kd _ _ _;have b9:=cw.below (bR.alloc nL (.cells #[(n:Int)] 3));have bK:=aJ.alloc aJ.size (.cells #[(n:Int)] 3);have bJ:=b9.rd;have eW:w.heap.size<=gn:=b4 ▸ aJ.size;rw [b4];generalize w1.alloc (.cells #[(n:Int)] 3)=W0 at aE b9 bK bJ⊢;clear cw aJ b4;have d7:=aE.cell 0;have dv:=aE.lt;have bt:Hid (W0.cell? gn=some (.int .i64 n)):=lhd d7;obtain ⟨bu,cm,dH,aI,bp⟩:=hqq5 dv bJ b9 bK aE;clear d7 dv bJ b9 bK aE;refine wp_region_any kR<|zQ (fs:=[6,19,21,23]) (C:=(Below W0.heap.size W0)) [18,19,20,21,22,23,6,5,7] 8 (SetT W0.heap.size 27) [k0 (is (n:Int)),k0 (λg u=>∃b,g=.slice (some ⟨b,0,none⟩) n n/\W0.heap.size<=b/\Bk u b 3 (Array.replicate n (.int .i64 0))),k0 (is (.slice bl n bE)),k0 (λg u=>∃A o,g=.slice A n o/\Made u W0.heap.size 3 1 A n o ((aG t).map sv)),k0 (is (n:Int)),k0 (λg u=>∃b,g=.slice (some ⟨b,0,none⟩) n n/\W0.heap.size<=b/\Bk u b 3 (Array.replicate n (.int .i64 0))),k0 (λg u=>∃b o,g=.pointer (some ⟨b,0,none⟩)/\W0.heap.size<=b/\Bk u b 27 #[o]),kEq 19,kLk 6 21 (λa7 g u=>∃b,a7=.pointer (some ⟨b,0,none⟩)/\W0.heap.size<=b/\Bk u b 27 #[g]),kEq 23] rfl kR kR (bR.drew) (aAQ rfl) (λw w' K a=>a.elim (λa=>K.trans (a.mono K.size)) (λa=>K.trans a.below)) (by repeat' (first | exact aGY _ | exact aH7 _ | exact aNi _ _ _ |(refine zAe.2 ⟨?_,?_⟩)|(intro J T;cases T))) (by repeat' (first | exact yZ _ _ | exact aEm _ | exact tZ _ _ | exact kM (λ_ _ _ ⟨b,D,s,E⟩ a=>⟨b,D,s,E.below a E.lt⟩)| exact kM (λ_ _ _ ⟨A,o,D,s⟩ a=>⟨A,o,D,s.below a⟩)| exact kM (λ_ _ _ ⟨b,o,D,s,E⟩ a=>⟨b,o,D,s,E.below a E.lt⟩)| exact kM (λ_ _ _ _ ⟨b,D,s,E⟩ a=>⟨b,D,s,E.below a E.lt⟩)| exact tY (λ_ _ _ ⟨b,D,s,E⟩ a=>⟨b,D,s,E.below a E.lt⟩)| exact tY (λ_ _ _ ⟨A,o,D,s⟩ a=>⟨A,o,D,s.below a⟩)| exact tY (λ_ _ _ ⟨b,o,D,s,E⟩ a=>⟨b,o,D,s,E.below a E.lt⟩)| exact tY (λ_ _ _ _ ⟨b,D,s,E⟩ a=>⟨b,D,s,E.below a E.lt⟩)|(refine zAe.2 ⟨?_,?_⟩)|(intro J T;cases T))) (by simp only [List.eraseIdx_cons_zero,List.eraseIdx_cons_succ,List.eraseIdx_nil];repeat' (first | exact yZ _ _ | exact aEm _ | exact tZ _ _ | exact kM (λ_ _ _ ⟨b,D,s,E⟩ a=>⟨b,D,s,a.other _ _ _ dC E⟩)| exact kM (λ_ _ _ ⟨A,o,D,s⟩ a=>⟨A,o,D,wN s λU G Z=>a.other _ _ _ dC Z⟩)| exact kM (λ_ _ _ ⟨b,o,D,s,E⟩ a=>let ⟨ab,cV⟩:=a.one _ _ E;⟨b,ab,D,s,cV⟩)|(refine zAe.2 ⟨?_,?_⟩)|(intro J T;cases T))) ?_ ?_
 .refine aL<|aD (cY rfl rfl λz _ L _ _ _ F _ _ _ _ M=>?_) ?_
  .obtain ⟨H,S⟩:=L;have e2:z (.tmp 4)=.pointer (some gn):=F 4 kR;clear F;have e9:=(H.cell (p:=gn) bu).trans bt;go_simp;exact M _ _ (dX bR rfl rfl) rfl
  refine aD (cY rfl rfl λ_ _ L _ _ _ F I _ _ _ M=>?_) ?_
  .obtain ⟨H,S⟩:=L;have eH:_=_:=I 0 18 kR rfl;clear F;have eo:=pN n oM;go_simp;exact M _ _ (kY (bR.alloc nL _) rfl (λb P=>by simp [blk?] at P;subst P;simp)) ⟨_,rfl,H.size,kd _ _ _⟩
  refine aD (cY rfl rfl λz _ L _ _ _ F _ _ _ _ M=>?_) ?_
  .obtain ⟨H,S⟩:=L;have eK:z (.tmp 3)=.slice bl n bE:=F 3 kR;clear F;go_simp;exact M _ _ (dX bR rfl rfl) rfl
  refine aD (cY rfl rfl λ_ _ L _ _ _ F I cG _ _ M=>?_) ?_
  .obtain ⟨H,S⟩:=L;have eI:_=_:=I 2 20 kR rfl;clear F;go_simp;refine (aBV (A:=bl) (n:=n) (B:=W0.heap.size) (l:=(aG t)) bE (cm.below H) H.size oM).mono ?_;rintro r fB ⟨aw,ab,rfl,bW,e7⟩;refine M _ _ (kY e7 rfl (λb P=>?_)) ⟨aw,ab,rfl,bW.mono H.size⟩;obtain ⟨_,_,_,_,fp⟩:=aZ bW.own;rcases aw with _ | cG
   .simp [blk?] at P
   obtain ⟨ev,dV,a5,_,b3⟩:=aZ bW.own;injection a5 with a5;have:=b3 cG a5.symm;simp [blk?] at P;subst P;exact this
  refine aD (cY rfl rfl λz _ L _ _ _ F _ _ _ _ M=>?_) ?_
  .obtain ⟨H,S⟩:=L;have e2:z (.tmp 4)=.pointer (some gn):=F 4 kR;clear F;have e9:=(H.cell (p:=gn) bu).trans bt;go_simp;exact M _ _ (dX bR rfl rfl) rfl
  refine aD (cY rfl rfl λ_ _ L _ _ _ F I _ _ _ M=>?_) ?_
  .obtain ⟨H,S⟩:=L;have eJ:_=_:=I 4 22 kR rfl;clear F;have eo:=pN n oM;go_simp;exact M _ _ (kY (bR.alloc nL _) rfl (λb P=>by simp [blk?] at P;subst P;simp)) ⟨_,rfl,H.size,kd _ _ _⟩
  refine aD (cY rfl rfl λ_ _ L _ _ _ F _ _ _ _ M=>?_) ?_
  .obtain ⟨H,S⟩:=L;clear F;go_simp;exact M _ _ (kY (bR.alloc nL _) rfl (λb P=>by simp [blk?] at P;subst P;simp)) ⟨_,_,rfl,H.size,kd _ _ _⟩
  refine aD (cY rfl rfl λz av L _ _ _ F I _ _ _ M=>?_) ?_
  .obtain ⟨H,S⟩:=L;have cb:(λg u=>∃b,g=.slice (some ⟨b,0,none⟩) n n/\W0.heap.size<=b/\Bk u b 3 (Array.replicate n (.int .i64 0))) (z (.tmp 19)) av:=I 1 19 kR rfl;clear F;clear cb;go_simp;exact M _ _ (dX bR rfl rfl) (by first | exact e19.symm | rfl)
  refine aD (cY rfl rfl λz av L _ _ _ F I _ _ _ M=>?_) ?_
  .obtain ⟨H,S⟩:=L;have ce:(λg u=>∃b o,g=.pointer (some ⟨b,0,none⟩)/\W0.heap.size<=b/\Bk u b 27 #[o]) (z (.tmp 6)) av:=I 6 6 kR rfl;have cc:(λg u=>∃A o,g=.slice A n o/\Made u W0.heap.size 3 1 A n o ((aG t).map sv)) (z (.tmp 21)) av:=I 3 21 kR rfl;clear F;obtain ⟨b,o,e3,P,Z⟩:=ce;obtain ⟨eu,eB,e1,ff⟩:=cc;have c6:=Z.cell 0;have eL:=Z.frozen 0;have eV:=Z.lt;go_simp;exact M (.bool true) _ (aLj (SetT.set Z P _) (by simp [World.setCell]) rfl) ⟨b,e3,P,by rw [e1];exact Z.set 0 _⟩
  refine aD (cY rfl rfl λz av L _ _ _ F I _ _ _ M=>?_) ?_
  .obtain ⟨H,S⟩:=L;have cd:(λg u=>∃b,g=.slice (some ⟨b,0,none⟩) n n/\W0.heap.size<=b/\Bk u b 3 (Array.replicate n (.int .i64 0))) (z (.tmp 23)) av:=I 5 23 kR rfl;clear F;clear cd;go_simp;exact M _ _ (dX bR rfl rfl) (by first | exact e23.symm | rfl)
  exact aB
 .intro z a8 H S I d1;have cS:z (.tmp 5)=z (.tmp 19):=I 7 5 rfl;have ce:(λg u=>∃b o,g=.pointer (some ⟨b,0,none⟩)/\W0.heap.size<=b/\Bk u b 27 #[o]) (z (.tmp 6)) a8:=I 6 6 rfl;have cT:z (.tmp 7)=z (.tmp 23):=I 9 7 rfl;have cb:(λg u=>∃b,g=.slice (some ⟨b,0,none⟩) n n/\W0.heap.size<=b/\Bk u b 3 (Array.replicate n (.int .i64 0))) (z (.tmp 19)) a8:=I 1 19 rfl;have cc:(λg u=>∃A o,g=.slice A n o/\Made u W0.heap.size 3 1 A n o ((aG t).map sv)) (z (.tmp 21)) a8:=I 3 21 rfl;have cd:(λg u=>∃b,g=.slice (some ⟨b,0,none⟩) n n/\W0.heap.size<=b/\Bk u b 3 (Array.replicate n (.int .i64 0))) (z (.tmp 23)) a8:=I 5 23 rfl;obtain ⟨fA,dB⟩:=d1 8 dC;have eq:(λa7 g u=>∃b,a7=.pointer (some ⟨b,0,none⟩)/\W0.heap.size<=b/\Bk u b 27 #[g]) (z (.tmp 6)) (z (.tmp 21)) a8:=dB;clear dB;simp only [zqq];clear I d1;obtain ⟨gx,bd,du,c8⟩:=cb;obtain ⟨g7,b2,eR,cZ⟩:=cd;obtain ⟨dG,c6,b0,bI⟩:=cc;obtain ⟨gr,dm,fl,c2⟩:=eq;rw [b0] at c2;obtain ⟨g6,rfl,eQ,cW⟩:∃g6,dG=some ⟨g6,0,none⟩/\W0.heap.size<=g6/\∃G:Array Value,Bk a8 g6 3 G/\n<=G.size/\∀(e:Nat) a7,((aG t).map sv)[e]?=some a7->G[e]?=some a7:=by
   rcases bI.own.2 with ⟨K,_⟩|⟨b,eC,dY,K,s,E,cV,eO,eP,e6⟩;injection K with b3 a5;omega
   .injection K with b3 a5 h10;refine ⟨b,b3,s,dY,E,by omega,λe a7 bb=>?_⟩;rw [<-e6,zBs,zDz] at bb;split at bb;exact bb
    .cases bb
  have d8:gx≠g7:=λr=>S.2 19 zs 23 zs dC gx (by rw [bd];rfl) (by rw [b2,r];rfl);have d9:gx≠g6:=λr=>S.2 19 zs 21 zs dC gx (by rw [bd];rfl) (by rw [b0,r];rfl);have da:g7≠g6:=λr=>S.2 23 zs 21 zs dC g7 (by rw [b2];rfl) (by rw [b0,r];rfl);have ea:=bp.lt;have d4:=bp.below H ea;have dd:=aI.trans (H.mono aI.size);have eY:=aI.size;rw [<-aGT] at c8;have aj:n<=c6:=bI.cap;rw [cS,cT,bd,b2,dm];obtain ⟨aT,bn,ch,aR,bq,a2⟩:=hqq6 c8 cZ cW c2 d4 dd;have cq:gx≠g7/\gx≠g6/\g7≠g6:=⟨d8,d9,da⟩;have cl:=lhd cq;clear cS cT bd b2 dm c8 cZ cW c2 d4 dd cq d8 d9 da H S ce b0 bI cm dH aI bp bt bu;go_wp2_with fail;go_loopw [26,8] (λq _ wr=>∃a:Nat,a<=n/\q=.int .i64 a/\Bk wr gx 3 (jZ n a)/\Keep (λU=>U=gx) a8 wr) (λq _ _=>n -(intOf q).toNat)
  case atStart=>exact ⟨0,by omega,rfl,aT,ke _ _⟩
  case round=>
   obtain ⟨a,ec,rfl,ah,a1⟩:=hrel;by_cases b8:a < n
   .have cH:=ah.cell a;have e4:=ah.frozen a;rw [zAq (by rw [aAC];exact b8)] at cH;obtain ⟨aK,a4⟩:=hqq2 ah a1;clear ah a1;generalize (jZ n a)[a]'(by rw [aAC];exact b8)=u0 at cH;go_wp2_with fail;go_roundw
    case rel=>exact ⟨a+1,by omega,by go_num,by rw [<-aGU b8];exact aK.set a _,a4.setCell (.inl rfl) _⟩
    case measure=>exact zr
   .obtain rfl:n=a:=oM;obtain ⟨aK,a4⟩:=hqq2 ah a1;clear ah a1;go_wp2_with fail;obtain ⟨gw,bT⟩:=eqx wr.heap.size;have d5:Bk (wr.alloc (.cells #[(1:Int)] 3)) gw 3 #[(1:Int)]:=bT ▸ kd _ _ _
    have am:RInv w.heap.size w m n (aG t) gn gr gx (wr.alloc (.cells #[(1:Int)] 3)) gw g6 g7 c6 n 1 (aAb m) (aG t):=by
     obtain ⟨cQ,cR,dZ⟩:=cl;obtain ⟨G,dw,ek,el⟩:=ch;have an:=a4.out;have be:=an.size;have fr:=aT.lt;have ft:=bq.lt;have fu:=bn.lt;have ep:=dw.lt;have fx:=aR.lt;refine ⟨d5,(an.d bq (λr=>by have:=du;omega)).alloc _,(an.d aR (λr=>by subst r;exact Bk.ne aR aT dC rfl)).alloc _,⟨G,(an.d dw (λr=>cR r.symm)).alloc _,ek,el⟩,⟨_,(an.d bn (λr=>cQ r.symm)).alloc _,by simp⟩,?_,aKz m,?_,?_,⟨aj,zAs _⟩,?_,?_,aGu _,zAs _,ef,?_⟩;have:=aK.out;rw [<-y.out,aJd] at this;exact this.alloc _
     .refine ⟨?_,?_,cR,cQ,?_,?_,dZ,?_,?_⟩<;> omega
     .refine ⟨?_,?_,?_,?_⟩<;> omega
     .rw [aO,cC.out,y.out]
     intro cg a6;have:=eX t cg a6;omega;refine (a2.trans ?_).alloc oM _;exact an.e (zj a2.size) (λU Z r=>by have:=du;omega)
    rw [bT];generalize wr.alloc (.cells #[(1:Int)] 3)=W8 at am⊢;have ay:=lhd am;clear am d5 bT aK a4 cl ch bq aR bn aT a2
    go_loopg [7,9] (n) (λgk bh bi wr=>∃gw g6 g7 c6 c7 wd d R,bh=.slice (some ⟨g7,0,none⟩) n c7/\bi=.pointer (some ⟨gw,0,none⟩)/\n - wd<=gk/\RInv w.heap.size w m n (aG t) gn gr gx wr gw g6 g7 c6 c7 wd d R)
    case atStart=>exact ⟨_,_,_,_,_,_,_,_,rfl,rfl,by omega,ay⟩
    case round=>
     clear ay;obtain ⟨gw,g6,g7,c6,c7,wd,d,R,rfl,rfl,eZ,am⟩:=hrel;have ay:=lhd am;clear am;go_wp2_with fail;obtain ⟨ae,bS⟩:=eqx wr.heap.size;have ag:Bk (wr.alloc (.cells #[.func (.func 98) #[] #[.pointer (some ⟨gw,0,none⟩),gn,gr]] 86)) ae 86 #[.func (.func 98) #[] #[.pointer (some ⟨gw,0,none⟩),gn,gr]]:=bS ▸ kd _ _ _;have O:=ay.grow ((kg wr.heap.size wr).alloc nL (.cells #[.func (.func 98) #[] #[.pointer (some ⟨gw,0,none⟩),gn,gr]] 86));rw [bS];generalize wr.alloc (.cells #[.func (.func 98) #[] #[.pointer (some ⟨gw,0,none⟩),gn,gr]] 86)=W1 at ag O⊢;have bO:d.size=n:=(by rw [O.ok.size,y.out]);have d6:CmpReads prog 99 #[gr,ae] (fS m) (cfF m wd R) gx 0 d.size W1:=λx aq e0 eT bh bi=>by have a:=kV (enc:=fS m) O.rows.lt 0 x e0 aq;exact aCA (gw:=gw) (gn:=gn) (gr:=gr) (w:=wd) (n:=n) (c:=c6) (A:=(some ⟨g6,0,none⟩)) (R:=R) ae bh.val bi.val (O.cl a) (((a.d ag (Bk.ne ag O.rows dC)).cell 0).trans rfl) (zj O.cf) oM O.co (zk bh.isLt y.out) (zk bi.isLt y.out)
     have c4:=Any.slices_SortFunc shSort (fS m) (oC m) (cfF m wd R) (aNY m O.rk) 99 #[gr,ae] gx 0 n d W1 (enters_of func99 kR rfl) d6.lays (aL1 O.rows) O.rows.lt oM;rw [bO] at c4;refine c4.mono ?_;clear c4 d6;rintro r aU ⟨rfl,d',nq,aq,bZ,c5,rfl⟩;have dl:RowsOk m d':=O.ok.b9 (by rw [bO];exact bZ);have b5:=O.cu (kV (enc:=fS m) O.rows.lt 0 nq d' aq) (aMB O.rows bZ.1 nq aq) dl;have bL:=(kV (enc:=fS m) O.rows.lt 0 nq d' aq).d ag (Bk.ne ag O.rows dC);generalize Go.Proofs.sortWorld (fS m) W1 gx 0 nq d' aq=aU at b5 bL⊢;have dp:∀q,q+1 < n->¬ltW (aN (aG t)) (wd+wd) (eU d' (q+1)) (eU d' q):=(by rw [<-y.out] at c5⊢;exact λq al=>aKm (i:=q) b5.rk dl.size c5 al);obtain ⟨cB,a9,cn⟩:=hqq3 dp b5 bL;clear dp O b5 ag bL bZ c5 bO ay bS;have aC:=y.out;have dh:=a9.ok.lt 0;have cP:aU.cell? gx=some (.int .i64 (eU d' 0:Nat)):=(a9.rows.cell 0).trans (a9.ok.cell oM);obtain ⟨dW,bg,dy⟩:=a9.next;obtain ⟨ar,bY⟩:=eqx (eU d' 0);rw [bY] at cP dh;have bF:=bg.cell ar;rw [zAq oM] at bF;have e5:=bg.frozen ar;generalize dW[ar]' oM=u7 at bF;have eg:ar < n:=oM;obtain ⟨cE,cy⟩:=hqq2 bg bY;clear bg bY aC dh;go_wp2_with fail;clear cP bF e5;go_loopw [12] (λq dF=>∃a:Nat,1<=a/\a<=n/\q=.int .i64 a/\∃G:Array Value,Bk dF g7 3 G/\n<=G.size/\(∀e,e < a->G[eU d' e]?=some (.int .i64 (cN (lV (aN R) wd) (eU d') e:Nat)))/\Keep (λU=>U=g7) aU dF) (λq _=>n -(intOf q).toNat)
     case atStart=>refine ⟨1,by omega,by omega,rfl,_,cE.set ar _,by simpa using dy,λe aH=>?_,(ke (λU=>U=g7) aU).setCell (p:=⟨g7,ar,none⟩) (.inl rfl) _⟩;obtain rfl:e=0:=oM;rw [cy.out,zCd,zBx rfl,zBx oM];rfl
     case round=>
      clear cE cy eg dy;obtain ⟨a,fc,ec,rfl,G,a0,aF,ai,a1⟩:=hrel;have N:=a9.bi a1 ⟨G,a0,aF⟩;by_cases b8:a < n
      .obtain ⟨e,aH⟩:∃e,a=e+1:=⟨a - 1,by omega⟩;have aC:=y.out;have a3:wr.cell? ⟨gx,a,none⟩=some (.int .i64 (eU d' a:Nat)):=(N.rows.cell a).trans (N.ok.cell oM);have ac:wr.cell? ⟨gx,e,none⟩=some (.int .i64 (eU d' e:Nat)):=(N.rows.cell e).trans (N.ok.cell oM);have aW:=(a0.cell (eU d' e)).trans (ai e oM);have dA:=N.ok.lt a;have dz:=N.ok.lt e;have aA:=a0.cell (eU d' a);rw [zAq oM] at aA;have bH:=a0.frozen (eU d' a);generalize G[eU d' a]' oM=uk at aA;have aV:=(N.len.cell 0).trans rfl;have aY:IntKind.i64.wrap (a - 1)=(e:Int):=zu;have ed:=zy ((a:Int) < n);obtain ⟨Q,c1⟩:=eqx (eU d' a);obtain ⟨au,c0⟩:=eqx (eU d' e);obtain ⟨g,bc⟩:=eqx (cN (lV (aN R) wd) (eU d') e);have ds:=yC (lV (aN R) wd) (eU d') 0 e;rw [zBi,bc] at ds;have fm:g<=1000:=(by have:cN (lV (aN R) wd) (eU d') 0=0:=rfl;omega);rw [c1] at a3 dA aA bH;rw [c0] at ac dz aW;rw [bc] at aW;have ei:Q < n:=oM;have eh:au < n:=oM;have fb:e < n:=oM;obtain ⟨ax,X,aM,a4,k,az,cz,dM,aQ⟩:=hqq9 a0 aF ai a1 N c1 c0 bc aH;clear a0 aF ai a1 N c1 c0 bc ds aC dA dz aH;go_wp2_with fail;refine wp_region_still_tail 14 kR kR ?_;simp only [zDS,zDN,zFa,zFA];change wpStill _ _ wr.drew (λdO=>wpList _ _ _ _ dO wr.drew) _ _;have cK:wr.drew.cell? ⟨gx,a,none⟩=_:=a3;have cJ:wr.drew.cell? ⟨gx,e,none⟩=_:=ac;have cM:wr.drew.cell? ⟨g7,au,none⟩=_:=aW;have cO:wr.drew.cell? ⟨g7,Q,none⟩=_:=aA;have cU:wr.drew.frozen? ⟨g7,Q,none⟩=false:=bH;obtain ⟨br,bx,bw⟩:=hqq3 ax.out.drew a4.out.drew (k.out.bi (ke _ _).drew ⟨G,ax.out.drew,X.out⟩);clear a3 ac aW aA bH aV ax a4 k;generalize wr.drew=W5 at cK cJ cM cO cU br bx bw⊢
       iterate 14 still_step
       refine wpStill_nil ?_;go_wp2_with fail;have aj:=br.set Q (.int .i64 g);have b6:=bx.setCell (p:=⟨g7,Q,none⟩) (.inl rfl) (.int .i64 g);have V:=bw.bi ((ke (λU=>U=g7) W5).setCell (p:=⟨g7,Q,none⟩) (.inl rfl) (.int .i64 g)) ⟨_,aj,by simpa using X.out⟩
       have bM:=b6.d cn (λr=>by
        obtain ⟨eF,a5,_⟩:=a9.next;subst r;exact Bk.ne cn a5 dC rfl)
       generalize W5.setCell ⟨g7,Q,none⟩ (.int .i64 g)=W6 at aj b6 V bM⊢;clear cK cJ cM cO cU br bx bw;have a3:W6.cell? ⟨gx,a,none⟩=some (.int .i64 Q):=(by rw [<-az.out];exact (V.rows.cell a).trans (V.ok.cell (zj y.out)));have ac:W6.cell? ⟨gx,e,none⟩=some (.int .i64 au):=(by rw [<-cz.out];exact (V.rows.cell e).trans (V.ok.cell (zj y.out)));obtain ⟨bj,be⟩:=eqx (lV (aN R) wd au Q);have ca:∀x:Nat,Calls prog 99 #[(au:Int),(Q:Int),gr,ae] (W6.drewN x) λr w'=>r=.returned (.int .i64 bj)/\∃cf,w'=W6.drewN cf:=λx=>by have K:=aCA (gw:=gw) (gn:=gn) (gr:=gr) (w:=wd) (n:=n) (c:=c6) (A:=(some ⟨g6,0,none⟩)) (R:=R) (W:=(W6.drewN x)) ae au Q ((V.cl (ke _ _)).drewN x) ((bM.drewN x).cell 0) (zj V.cf) oM V.co eh ei;rw [be] at K;exact K.mono λ_ _ ⟨bP,cf,ba⟩=>⟨bP,x+cf,by rw [ba,zEA]⟩
       obtain ⟨aP,cu,dJ,dN⟩:=hqq4 aj b6 V be;have aX:((a:Int) - 1).toNat=e:=(zj aQ.out);have ad:(0:Int)<=a - 1:=(zj aQ.out);clear aj b6 V bM be;go_quiet ((with_reducible exact ca _));have bQ:eU d' a < G.size:=(by rw [az.out];have:=X.out;omega);have bU:∀bf,bf < a->eU d' bf≠eU d' a:=λbf fa r=>by have:=dJ.ok.inj (i:=bf) (j:=a) (zj y.out) (zj y.out) r;omega
       have ak:cN (lV (aN R) wd) (eU d') a=g+(if bj≠0 then 1 else 0):=(by rw [aQ.out,<-dM.out];show cN _ _ e+(if lV (aN R) wd (eU d' e) (eU d' (e+1))≠0 then 1 else 0)=_;rw [<-aQ.out,az.out,cz.out,dN.out]);obtain ⟨cr,ct⟩:=hqq2 bQ bU;by_cases c9:bj=0
       .subst c9;rw [zBw zs,zBq] at ak;have bs:=lhd ak;clear ak bQ bU a3 ac ca aX ad aY;go_wp2_with fail;go_roundw
        case rel=>refine ⟨a+1,by omega,by omega,by go_num,_,aP.drewN _,by simpa using X.out,?_,cu.drewN _⟩;have:=aCj aM cr ct bs;rw [az.out] at this;exact this
        case measure=>exact zr
       .rw [zBx c9] at ak;have bs:=lhd ak;have dV:W6.cell? ⟨g7,Q,none⟩=some (.int .i64 g):=(by rw [aP.cell,zCd,zBx rfl,zBx (zj X.out)]);have eM:=aP.frozen Q;have fn:IntKind.i64.wrap (g+1)=((g+1:Nat):Int):=zu;have fq:(bj==0)=false:=(by simpa using c9);clear ak bQ bU ac ca aX ad aY;go_wp2_with fail;go_roundw
        case rel=>refine ⟨a+1,by omega,by omega,by go_num,_,(aP.drewN nq).set Q _,by simpa using X.out,?_,(cu.drewN nq).setCell (p:=⟨g7,Q,none⟩) (.inl rfl) _⟩;have:=aCj aM cr ct bs;rw [az.out] at this;rw [set_set];exact this
        case measure=>exact zr
      .obtain rfl:n=a:=oM;have aC:=y.out;obtain ⟨x,ba⟩:∃x,n=x+1:=⟨n - 1,by omega⟩;obtain ⟨ao,b7⟩:=eqx (cN (lV (aN R) wd) (eU d') x);have db:=yC (lV (aN R) wd) (eU d') 0 x;rw [zBi,b7] at db;have fd:ao<=x:=(by have:cN (lV (aN R) wd) (eU d') 0=0:=rfl;omega);obtain ⟨J,T⟩:=eqx (eU d' x);have fi:J < n:=(zj (N.ok.lt x));have af:=N.box;have eD:=(N.len.cell 0).trans rfl;have ex:=af.cell 0;have e4:=af.frozen 0;have b1:∀b G,Bk wr b 3 G->Bk (wr.setCell gr (.slice (some ⟨g7,0,none⟩) n c7)) b 3 G:=λb G K=>K.m (p:=gr) (Bk.ne K af dC) _;have a3:(wr.setCell gr (.slice (some ⟨g7,0,none⟩) n c7)).cell? ⟨gx,x,none⟩=some (.int .i64 J):=(by rw [<-T];exact ((b1 _ _ N.rows).cell x).trans (N.ok.cell oM));have cL:(wr.setCell gr (.slice (some ⟨g7,0,none⟩) n c7)).cell? ⟨g7,J,none⟩=some (.int .i64 ao):=(by rw [<-T,<-b7];exact ((b1 _ _ a0).cell _).trans (ai x oM));have aV:=((b1 _ _ N.len).cell 0).trans rfl;have cI:=(af.set 0 (.slice (some ⟨g7,0,none⟩) n c7)).cell 0;have bG:=((b1 _ _ N.wide).cell 0).trans rfl;have ee:x < n:=oM;have aY:IntKind.i64.wrap (n - 1)=(x:Int):=zu;obtain ⟨bB,cv,ew,k,ax,X,aM,dI,ck⟩:=hqq9 ba b7 T N a0 aF ai af b1;have ed:=zn ((n:Int) < n);clear ba b7 T N a0 aF ai a1 af b1 aC db;go_wp2_with fail;have bN:=dI.set 0 (.slice (some ⟨g7,0,none⟩) n c7);have bV:=(ke (λU=>U=gr) wr).setCell (p:=gr) (.inl rfl) (.slice (some ⟨g7,0,none⟩) n c7);have b1:=ck.out;generalize wr.setCell gr (.slice (some ⟨g7,0,none⟩) n c7)=W9 at a3 cL aV cI bG bN bV b1⊢;have dn:=b1 _ _ k.rows;have d0:=b1 _ _ ax;have dt:=b1 _ _ k.wide;have dj:=b1 _ _ k.len;obtain ⟨eE,dx,em,en⟩:=k.U;have cX:=b1 _ _ dx;have de:=k.below.trans (bV.e (zk k.lo.1 k.rows.lt) (λU Z r=>by have:=k.lo.2.2.2;omega));obtain ⟨cp,cA,cj,cD,cx,ci,aa⟩:=hqq7 bN dn d0 dt dj cX de;clear bN bV b1 dn d0 dt dj cX de dx en ck;have aX:((n:Int) - 1).toNat=x:=(zj bB.out);have ad:(0:Int)<=n - 1:=(zj bB.out);have dk:∀q e,lV (aN R) wd q e=0↔eqW (aN (aG t)) (wd+wd) q e:=aMS k.rk;have df:(aG t).length=n:=(by rw [aO,cC.out,y.out]);obtain ⟨bA,Y⟩:=hqq2 dk df;clear dk df;go_quiet (fail);clear aX ad aY a3 cL aV cI bG;obtain ⟨co,aS,bo,bC,bz,bm⟩:=hqq6 (cp.out.drewN nq) (cA.out.drewN nq) (cj.out.drewN nq) (cD.out.drewN nq) (cx.out.drewN nq) (ci.out.drewN nq);have dc:Below w.heap.size w (W9.drewN nq):=⟨aa.os,aa.tape,aa.output,aa.size,aa.block⟩;have a2:=lhd dc;clear dc cp cA cj cD cx ci aa;generalize W9.drewN nq=W10 at co aS bo bC bz bm a2⊢;by_cases dg:ao=x
       .subst dg;have dq:=k.ok.aa (l:=aG t) (by rw [Y.out,y.out]) (w:=wd+wd) (λq e eb aH=>aOw (i:=q) (j:=e) bA cB oM (by have:=bB.out;have:=cv.out;rw [show n - 1=ao by omega];exact this) eb (zj y.out));have dL:=lhd dq;clear dq;go_wp2_with fail;go_ret;refine ⟨_,some ⟨gx,0,none⟩,n,dL,by rw [y.out];rfl,?_,a2⟩;rw [<-aMJ];have:=aHW aS k.lo.1 (n:=n) (by simp [k.ok.size,y.out]) zx;have e8:∀bD,Made W10 w.heap.size 3 1 (some ⟨gx,0,none⟩) n n bD->Made W10 w.heap.size 3 1 (some ⟨gx,0,none⟩) (m+1) n bD:=λbD K=>by rw [y.out];exact K
        exact e8 _ this
       .have fj:((ao:Int)==x)=false:=zt;have fk:(ao==x)=false:=zt;have bG:=bC.cell 0;have eG:=bC.lt;have fo:wd<=896:=(zj k.cf);go_wp2_with fail;have fh:wd+wd < n:=by rcases zBe (wd+wd) n with K | K;exact K;exfalso;apply dg;rw [<-cv.out];refine aNq (n:=n) (λq al bP=>?_) x ee;have:=(bA _ _).1 bP;have eS:=y.out;refine aHP (l:=aG t) (by rw [Y.out];exact K) (by rw [Y.out];have:=k.ok.lt q;omega) (by rw [Y.out];have:=k.ok.lt (q+1);omega) (λr=>?_) this;have:=k.ok.inj oM oM r;omega
        go_roundg (n -(wd+wd))
        case measure=>have:=k.cg;omega
        case rel=>
         obtain ⟨cF,dD,er,es,et⟩:=aKL (cs:=G) (f:=eU d') (v:=cN (lV (aN R) wd) (eU d')) X (λe _=>by have:=k.ok.lt e;have:=y.out;omega) aM (λJ T=>by
          obtain ⟨q,D,s⟩:=k.ok.cP (p:=J) (zj y.out);exact ⟨q,by have:=y.out;omega,s⟩)
         have ej:RankOk (aN (aG t)) (aN cF) (wd+wd):=(by refine aIO (zj k.cg) bA (λq al=>cB q (by rw [<-Y.out];exact al)) (by rw [dD,Y.out]) (λq al=>er q (by rw [<-Y.out];exact al)) (λJ T=>?_);obtain ⟨q,D,s⟩:=k.ok.cP (p:=J) (by have:=y.out;rw [Y.out] at T;omega);exact ⟨q,by have:=y.out;rw [Y.out];omega,s⟩);obtain ⟨ey,dP,dQ,dR,ez,dS,dT,eA,dU⟩:=k.ap;have fz:=aS.lt;have fy:=k.cg;have fv:=bo.lt;have ep:=bm.lt;have fw:=bz.lt;have ad:(wd:Int)*2=(wd+wd:Nat):=oM;rw [ad];refine ⟨_,_,_,_,_,wd+wd,d',cF,rfl,rfl,zAs _,kd _ _ _,bz.alloc _,co.alloc _,⟨_,bo.alloc _,X,es⟩,⟨_,bm.alloc _,em⟩,aS.alloc _,k.ok,⟨?_,dP,dR,dQ,?_,dU,dT.symm,?_,dS⟩,⟨k.lo.1,k.lo.2.2.1,k.lo.2.1,k.lo.2.2.2⟩,⟨k.cap.2,k.cap.1⟩,dD,?_,ej,by omega,by omega,a2.alloc a2.size _⟩;omega;omega;omega;intro cg a6;obtain ⟨e,aH,rfl⟩:=et cg a6;have:=yC (lV (aN R) wd) (eU d') 0 e;rw [zBi] at this;have eN:cN (lV (aN R) wd) (eU d') 0=0:=rfl;omega
end
end Go.Proofs.YtknjfpcdhdmghaaGreatDoor
