/- Lemmas of the walk. Conditions: each its own. -/
import Derived.Test.YtknjfpcdhdmghaaGreatDoorPt16
import Derived.Test.YtknjfpcdhdmghaaGreatDoorPt17
set_option linter.all false
set_option maxRecDepth 100000
set_option maxHeartbeats 2000000
open Go.Proofs.Tryz
namespace Go.Proofs.YtknjfpcdhdmghaaGreatDoor
section
open Go.RowKit
def TreeEo.ht {g c d b} {a:Option Tr} (e:TreeEo g c d a) (f:HtB b (cH a).length):oht a<=b:=e.at.ht f
def aDC {g c j i} (b) {a e} (d:TreeE e g c a) (v:a.length<=1099) (m:i<=a.length) (t:HtB j a.length):
 Calls prog 226 #[c,(i:Int),.bool b] e λk f=>k=.returned (.int .i64 0)/\TreeE f (Gw g e.heap.size) c (aT a i b)/\Keep g e f/\RankV c (5*j+2) f:=by
 obtain ⟨w,rfl,d⟩:=d;refine (aDD b d oM m).mono ?_;rintro k f ⟨p,q,r,o,u,s⟩;have:=d.ht t;exact ⟨p,⟨_,aI5 b m,q⟩,r,o,by omega,s⟩
def Gw.gw {c n d} (e:n<=d):∀b,Gw (Gw c n) d b->Gw c n b:=λb a=>by
 rcases a with a | a;exact a;exact .inr oM
def aJN {f o gk i:Nat} (lv y:Int) {b c} {g:Nat} {e a} (ht:TreeE a b f c) (k:Bk a gk 3 #[(g:Int)]) (j:Bk a i 4 #[.bool e]) (w:c.length<=895) (v:g<=c.length) (u:HtB o c.length):
 Calls prog 225 #[.agg #[f,(lv:Int),(y:Int)],gk,i] a λp m=>p=.returned (.tuple #[])/\TreeE m (Gw b a.heap.size) f (aT c g e)/\Keep b a m/\RankV f (5*o+2) m:=by
 have z:a.cell? gk=some (.int .i64 g):=(k.cell 0).trans rfl;have A:a.cell? i=some (.bool e):=(j.cell 0).trans rfl;have B:=k.lt;have C:=j.lt;clear k j;go_enter func225,ntmps225;go_wp2_with fail;refine (aDC e (ht.below (bR.alloc nL _)) (zAk w dC) v u).mono ?_;rintro p w1 ⟨rfl,q,r,x⟩;have t:Keep b a w1:=(kF (bR.alloc nL _)).trans r;have s:=(q.mono (G:=Gw b a.heap.size) λD _ d=>by
  rcases d with d | d;exact .inl d
  .simp at d;exact .inr oM)
 clear q r;go_wp2_with fail;go_end0;exact ⟨rfl,s,t,x⟩
def aFS {j gk c:Nat} (lv w:Int) {i b e} {d:Nat} {a} (ht:TreeE a b j e) (k:Bk a gk 3 #[(d:Int)]) (s:Bk a c 4 #[i]) (u:¬b c) (v:d < e.length):
 Calls prog 221 #[.agg #[j,(lv:Int),(w:Int)],gk,c] a λm x=>m=.returned (.tuple #[])/\∃w1,TreeE w1 (Gw b a.heap.size) j (aK e d)/\Keep b a w1/\Bk w1 c 4 #[i]/\x=w1.setCell c (.bool (e.getD d false)):=by
 have z:a.cell? gk=some (.int .i64 d):=(k.cell 0).trans rfl;have D:=k.lt;have E:=s.lt;obtain ⟨y,r⟩:=eqx (e.getD d false);rw [r];clear k;go_enter func221,ntmps221;go_wp2_with fail;refine (aAZ (ht.below (bR.alloc nL _)) v).mono ?_;rintro m w1 ⟨rfl,o,p⟩;rw [r];have q:Keep b a w1:=(kF (bR.alloc nL _)).trans p;have g:=q.d s u;have A:w1.cell? c=some i:=(g.cell 0).trans rfl;have B:=g.frozen 0;have C:=g.lt;have t:=(o.mono (G:=Gw b a.heap.size) λi _ f=>by
  rcases f with f | f;exact .inl f
  .simp at f;exact .inr oM)
 clear o p;go_wp2_with fail;go_end0;exact ⟨rfl,w1,t,q,g,rfl⟩
def tV {c a b d e} (f:TreeAt c a d) (i:Bk c b 191 e):a≠b:=by
 rintro rfl;obtain ⟨_,g⟩:=f.a;exact absurd (aU g i).1 dC
def TreeE.a5 {b i c e a d n r} {j:Nat->Value} (o:TreeE b c e d) (p:Bk b a 191 (wcells j n r)) (q:Keep (λk=>k=a) b i):TreeE i c e d:=o.keep q λs u t f g _ m=>by
 rw [show s=a from m] at g;rw [(aU g p).1] at f;exact absurd f dC
def aNC {gv gt H gk gb:Nat} {S:Nat->Value} {n v:Int} (lv p:Int) {F bs} {k:Nat} {b w} (x:Bk w gv 191 (wcells S n v)) (ht:TreeE w F gt bs) (B:¬F gv) (A:∀c,F c->c < w.heap.size) (u:Bk w gk 3 #[(k:Int)]) (t:Bk w gb 4 #[.bool b]) (I:bs.length<=895) (G:k<=bs.length) (C:HtB H bs.length):
 Calls prog 161 #[gv,.agg #[gt,(lv:Int),(p:Int)],.func (.func 225) #[] #[gk,gb]] w λf r=>f=.returned (.tuple #[])/\
  TreeE r (Gw F w.heap.size) gt (aT bs k b)/\Keep (λc=>F c∨c=gv) w r/\∃a:Nat,a<=5*H+2/\Bk r gv 191 (wcells S n (IntKind.i64.wrap (v+a))):=by
 have d:=(kg w.heap.size w).alloc nL (.cells #[gt,(lv:Int),(p:Int)] 194);refine (vN (S:=S) (n:=n) (q:=λe y z=>v=y/\(∃a:Nat,a<=5*H+2/\(a:Int)=z)/\TreeE e (Gw F w.heap.size) gt (aT bs k b)/\Keep F w e) (mM func225 kR kR) ((aJN lv p (ht.below d) (u.below d u.lt) (t.below d t.lt) I G C).mono ?_)).mono ?_
 rotate_left
 rintro f L ⟨rfl,e,y,z,⟨rfl,⟨a,m,rfl⟩,i,E⟩,j,s,K⟩;exact ⟨rfl,i.a5 j s,(E.mono λc _ g=>.inl g).trans (s.mono λc _ f=>.inr f),a,m,K⟩;rintro f e ⟨rfl,J,o,a,D,m⟩;have j:=o.d (x.below d x.lt) B;have i:TreeE e (Gw F w.heap.size) gt (aT bs k b):=J.mono λc _ g=>g.imp id (zAk d.size);exact ⟨rfl,v,a,⟨j,o.d (kd w _ _) (λg=>absurd (A _ g) (zCl _)),i.at.lt,tV i.at j,m⟩,rfl,⟨a,D,rfl⟩,i,(kF d).trans o⟩
def aJM {o m gk a:Nat} {t:Nat->Value} {n E:Int} (lv k:Int) {d e g} {i:Nat} {c} (B:Bk c o 191 (wcells t n E)) (ht:TreeE c e m g) (J:¬e o) (H:¬e a) (I:∀d,e d->d < c.heap.size) (y:Bk c gk 3 #[(i:Int)]) (A:Bk c a 4 #[d]) (K:∀b,e b->b≠a) (M:i < g.length):
 Calls prog 161 #[o,.agg #[m,(lv:Int),(k:Int)],.func (.func 221) #[] #[gk,a]] c λj w=>j=.returned (.tuple #[])/\
  TreeE w (Gw e c.heap.size) m (aK g i)/\Keep (λd=>e d∨d=o∨d=a) c w/\Bk w a 4 #[.bool (g.getD i false)]/\∃W,Bk w o 191 (wcells t n W):=by
 have r:=(kg c.heap.size c).alloc nL (.cells #[m,(lv:Int),(k:Int)] 194);have D:=Bk.ne A B dC;have V:=A.lt;refine (vN (S:=t) (n:=n) (q:=λu X C=>TreeE u (Gw e c.heap.size) m (aK g i)/\Keep (λb=>e b∨b=a) c u/\Bk u a 4 #[.bool (g.getD i false)]) (mM func221 kR kR) ((aFS lv k (ht.below r) (y.below r y.lt) (A.below r V) H M).mono ?_)).mono ?_
 rotate_left
 rintro j a1 ⟨rfl,u,X,C,⟨s,L,O⟩,v,x,U⟩;exact ⟨rfl,s.a5 v x,(L.mono (G:=λd=>e d∨d=o∨d=a) λd _ f=>f.imp id .inr).trans (x.mono λd _ j=>.inr (.inl j)),x.d O D,_,U⟩;rintro j a0 ⟨rfl,w1,R,z,N,rfl⟩;have v:=(z.d (B.below r B.lt) J).m (p:=a) D.symm (.bool (g.getD i false));have s:TreeE (w1.setCell a (.bool (g.getD i false))) (Gw e c.heap.size) m (aK g i):=(R.mono λd _ f=>f.imp id (zAk r.size)).keep (G:=λb=>b=a) (ka (F:=λb=>b=a) (ke _ _) (p:=a) (.inl rfl) _) λb Z Y _ y f=>λj=>by rcases f with f | f;exact K b f j;exact absurd (show b=a from j) oM
 obtain ⟨C,T⟩:=s.at.a3;exact ⟨rfl,E,C,⟨v,(z.d (kd c _ _) (λf=>absurd (I _ f) (zCl _))).m (p:=a) (show c.heap.size≠a by omega) _,s.at.lt,tV s.at v,T⟩,s,ka (F:=λb=>e b∨b=a) (((kF r).trans z).mono λb _ f=>.inl f) (p:=a) (.inl (.inr rfl)) _,N.set 0 _⟩
def aFB (n:Nat) (a) (o:n<=2147483648):
 Calls prog 58 #[(n:Int),()] a λb g=>∃c i,b=.returned (.tuple #[.pointer (some ⟨c,0,none⟩),o0])/\PermAt g a.heap.size c i (.slice none 0 0) (.slice none 0 0) (.slice none 0 0) (.slice none 0 0) n n [] [] [] []/\Below a.heap.size a g:=by
 have k:¬((n:Int) < 0):=oM;have m:¬((n:Int) > 2147483648):=oM;go_enter func58,ntmps58;go_wp2_with fail;refine (vX _).mono ?_;rintro b w1 ⟨rfl,e,d⟩;have p:=e.lt;go_wp2_with fail;refine wp_loop_rounds 1 ?_;rw [rounds_succ];go_wp2_with fail;go_ret2;have f:=d.size;exact ⟨_,_,rfl,⟨kd _ _ _,ki _ _ _ _,ki _ _ _ _,e.alloc _,ki _ _ _ _,ki _ _ _ _,.inl rfl,λq j=>(by cases j),⟨f,zAs _⟩⟩,d.alloc f _⟩
def dE (b:List Nat) (d c:Nat):List (Nat×Nat):=((List.range c).filter λa=>b.getD a 0 % d==0).map λa=>(a,b.getD a 0)
def aGm (b c a):dE b c (a+1)=if b.getD a 0 % c=0 then dE b c a++ [(a,b.getD a 0)] else dE b c a:=by
 unfold dE;rw [zDx,zEe,zAz];by_cases d:b.getD a 0 % c=0
 .rw [zBx d];simp only [zEu,d,beq_self_eq_true,if_true,List.filter_nil,zEJ,zGv]
 .rw [zBw d];have:(b.getD a 0 % c==0)=false:=(by simpa using d);simp only [zEu,this,zEK,if_false,List.filter_nil,zGv,zEa]
def rA {d f c a} (b:a∈dE d f c):a.1 < c/\a.2=d.getD a.1 0:=by
 unfold dE at b;obtain ⟨g,e,rfl⟩:=zAy.1 b;have:=(zCx.1 e).1;exact ⟨by simpa using this,rfl⟩
def uD (e d c):(dE e d c).Pairwise (λa b=>a.1 < b.1):=by
 unfold dE;rw [zDm];exact List.Pairwise.filter _ List.pairwise_lt_range
def aEy {C a} (b:a < C.length):(aF C a,aS C a)∈C:=by
 unfold aF aS;rw [zAb,zAa b];exact zBj b
def aEx {a} (i:a.Pairwise (λb c=>b.1 < c.1)):(List.range a.length).Pairwise (λb c=>aF a b < aF a c):=by
 rw [zAr];intro f g j m k;have d:f < a.length:=by simpa using j
 have e:g < a.length:=by simpa using m
 have:=zAr.1 i f g d e k;simp only [zFM];unfold aF;rw [zAb,zAb,zAa d,zAa e];exact this
def Apt.cs {j f c g} (k:Apt j c) (o:f.ownBlock=j.ownBlock∨∃e,f.ownBlock=some e/\g<=e) (m:∀a,c=some a->a.block < g):Apt f c:=by
 intro a i b;rcases o with d |⟨e,d,p⟩;exact k a i (d.symm.trans b);rw [d] at b;injection b with b;have:=m a i;omega
def PermAt.cd {s c f e g i j r m P p k q o} (b:PermAt s c f e g i j r m P p k q o) {d} (a:PF f e g i j d):c<=d:=by
 rcases a with rfl | rfl | a | a | a;exact b.lo.1;exact b.lo.2;exact (b.u.lt _ a).1;exact (b.t.lt _ a).1;exact (b.F.lt _ a).1
def PermAt.keep {F i w' j q p v w x u m P r k t o} (b:PermAt i j q p v w x u m P r k t o) (f:Keep F i w') (e:∀d s g,F d->Bk i d s g->s∉ [140,133,3,183,4]):PermAt w' j q p v w x u m P r k t o:=
 ⟨f.d b.a (λa=>e _ _ _ a b.a dC),iJ b.u f (λd g a c=>e _ _ _ a c dC),iJ b.t f (λd g a c=>e _ _ _ a c dC),f.d b.V (λa=>e _ _ _ a b.V dC),iJ b.F f (λd g a c=>e _ _ _ a c dC),iJ b.M f (λd g a c=>e _ _ _ a c dC),b.apart,b.lt,b.lo⟩
structure LvInv (w2:World) (B1 B3 gl gk gp ga n rate:Nat) (A3:Option Addr) (c3:Nat) (rs:List Nat) (k:Nat) (vl vo vt:Value) (tk:List Bool) (wr:World):Prop where
 perm:PermAt wr B1 gp ga vl vo vt (.slice none 0 0) n n (List.range (dE rs rate k).length) (dE rs rate k) tk []
 len:tk.length=(dE rs rate k).length
 dj:Apt vo A3
 row:wr.ownsRow B3 3 1 (.slice A3 n c3) n (rs.map sv)
 a:Bk wr gl 104 #[gk,gp,(rate:Int),o0]
 below:Below w2.heap.size w2 wr
structure LiveAt (w:World) (Bw gl gk gp ga:Nat) (vl vo vt:Value) (B n rate:Nat) (L:List Nat) (C:List (Nat×Nat)) (tk:List Bool):Prop where
 a:Bk w gl 104 #[gk,gp,(rate:Int),o0]
 walk:WalkAt w Bw gk L
 perm:PermAt w B gp ga vl vo vt (.slice none 0 0) n n (List.range C.length) C tk []
end
section
def Pq (l:List Nat) (a:Bool):List Nat->Nat->Bool
 | [],_=>a
 | b::q,p=>decide (aN l p < (b:Int))||(decide (aN l p=(b:Int))&&Pq l a q (p+1))
def wJ (l:List Nat):List Nat->Nat->Bool
 | [],_=>true
 | a::q,p=>decide (aN l p=(a:Int))&&wJ l q (p+1)
def aDN (l c b d a):Pq l c (b::d) a=(decide (aN l a < (b:Int))||(decide (aN l a=(b:Int))&&Pq l c d (a+1))):=rfl
def aCg (l c b a):wJ l (c::b) a=(decide (aN l a=(c:Int))&&wJ l b (a+1)):=rfl
def jF (l c d):sufLt l c d↔aN l c < aN l d∨(aN l c=aN l d/\sufLt l (c+1) (d+1)):=by
 constructor
 .rintro ⟨i,b,m,e,f⟩;rcases b with _ | b;exact .inl f
  .refine .inr ⟨e 0 oM,i,b,by omega,λa g=>?_,?_⟩
   .have:=e (a+1) oM;rwa [show c+(a+1)=c+1+a by omega,show d+(a+1)=d+1+a by omega] at this
   .rwa [show c+(b+1)=c+1+b by omega,show d+(b+1)=d+1+b by omega] at f
 .rintro (j |⟨k,i,b,m,e,f⟩);exact ⟨1,0,by omega,λa g=>absurd g oM,j⟩
  .refine ⟨i+1,b+1,by omega,λa g=>?_,?_⟩
   .rcases a with _ | a;exact k
    .have:=e a oM;rwa [show c+(a+1)=c+1+a by omega,show d+(a+1)=d+1+a by omega]
   .rwa [show c+(b+1)=c+1+b by omega,show d+(b+1)=d+1+b by omega]
def aDM {l e} (d):∀ {b c:Nat},sufLt l c b->Pq l e d b=true->Pq l e d c=true:=by
 induction d with
 | nil=>intro b c _ a;exact a
 | cons m d k=>
  intro b c j a;unfold Pq at a⊢;simp only [zEX,zBd,zCa] at a⊢;rcases (jF l c b).1 j with f |⟨f,g⟩;rcases a with a |⟨a,_⟩;exact .inl oM;exact .inl oM;rcases a with a |⟨a,i⟩;exact .inl oM;exact .inr ⟨by omega,k g i⟩
def wH {e:Nat->Nat->Prop} {P:Nat->Bool} {b:List Nat} (p:b.Pairwise e) (k:∀c a,e c a->P a=true->P c=true):b.take (b.countP P)=b.filter P:=by
 induction b with
 | nil=>rfl
 | cons c l r=>
  obtain ⟨g,i⟩:=zEf.1 p;rw [zBn,zEu];by_cases d:P c=true
  .simp only [d,if_true];rw [zDS,r i]
  .have f:∀a∈l,¬P a=true:=λa q o=>d (k c a (g a q) o);have j:l.countP P=0:=zDU.2 f;have m:l.filter P= []:=zFS.2 f;simp [d,j,m]
def Nq (l:List Nat) (a:Bool) (b:List Nat):Nat:=(List.range l.length).countP (Pq l a b)
def IsSuf.count {l a} (b:IsSuf l a) (P:Nat->Bool):a.countP P=(List.range l.length).countP P:=b.perm.countP_eq P
def aNR (l a b):Nq l a b<=l.length:=by
 unfold Nq;have:=zBh (p:=Pq l a b) (l:=List.range l.length);simpa using this
def aF7 {l e} (c:IsSuf l e) (b a f):((aH l e).take (Nq l b a)).count f=(List.range l.length).countP (λd=>decide (bS l d=f)&&Pq l b a d):=by
 have g:Nq l b a=e.countP (Pq l b a):=(c.count _).symm;rw [g,aH,<-zDw,wH c.B (λk m i j=>aDM a i j),<-c.count,zEU,zEr,List.countP_filter];refine zDy λd _=>?_;simp [Function.comp,and_comm]
def bV {l} (a:0 < l.length):bS l 0=l.getD (l.length - 1) 0:=by
 unfold bS;rw [zBi,zBu oM]
def bL {l a} (b:a+1 < l.length):bS l (a+1)=l.getD a 0:=by
 unfold bS;rw [show a+1+l.length - 1=a+l.length by omega,Nat.add_mod_right,zBu oM]
def fN {l a} (b:a < l.length):aN l a=((l.getD a 0:Nat):Int):=by
 rw [aNQ b,zAb,zAa b];rfl
def iE {m} (b:Nat->Bool) (c:Nat->Bool) (d:b 0=c m) (e:∀a,a < m->b (a+1)=c a):(List.range (m+1)).countP b=(List.range (m+1)).countP c:=by
 rw [List.range_succ_eq_map,zBn,zEr,<-List.range_succ_eq_map,zDx,zFj,zBn,List.countP_nil,zBi,d];congr 1;refine zDy λa f=>?_;have g:a < m:=by simpa using f
 simp [Function.comp,e a g]
def wW {α:Type} (l:List α) (b c:α->Bool) (d:∀a∈l,¬(b a=true/\c a=true)):l.countP (λa=>b a||c a)=l.countP b+l.countP c:=by
 induction l with
 | nil=>rfl
 | cons a l f=>
  rw [zBn,zBn,zBn,f (λg e=>d g (by simp [e]))];have:=d a zs;cases i:b a <;> cases j:c a <;> simp_all <;> omega
structure EndOk (l:List Nat) (m:Nat):Prop where
 len:l.length=m+1
 last:l.getD m 0=0
 pos:∀p,p < m->0 < l.getD p 0
def aHT {l i d} (j:IsSuf l i) (k:EndOk l d) (e f b) (v:0 < b):cR (aH l i) b (Nq l e f)=Nq l e (b::f):=by
 have c:=k.len;unfold cR;rw [aF7 j];have m:(aH l i).countP (λr=>decide (r < b))=(List.range (d+1)).countP (λa=>decide (l.getD a 0 < b)):=by
  rw [aH,zEr,j.count,c];refine iE _ _ ?_ λa g=>?_
  .show decide (bS l 0 < b)=_;rw [bV oM,c,zBb]
  .show decide (bS l (a+1) < b)=_;rw [bL oM]
 have o:(List.range l.length).countP (λa=>decide (bS l a=b)&&Pq l e f a)=(List.range (d+1)).countP (λa=>decide (l.getD a 0=b)&&Pq l e f (a+1)):=by
  rw [c];refine iE _ _ ?_ λa g=>?_;show (decide (bS l 0=b)&&_)=(decide (l.getD d 0=b)&&_);rw [bV oM,c,zBb,k.last];have:decide (0=b)=false:=zt;rw [this];rfl
  .show (decide (bS l (a+1)=b)&&_)=_;rw [bL oM]
 rw [m,o,<-wW]
 .unfold Nq;rw [c];refine zDy λa g=>?_;have u:a < d+1:=(by simpa using g);rw [aDN,fN oM];have p:decide (((l.getD a 0:Nat):Int) < b)=decide (l.getD a 0 < b):=(by rw [decide_eq_decide];omega);have q:decide (((l.getD a 0:Nat):Int)=b)=decide (l.getD a 0=b):=(by rw [decide_eq_decide];omega);rw [p,q]
 intro a _;simp only [zBd,zCa];rintro ⟨s,t,_⟩;omega
def aOX (l):Nq l false []=0/\Nq l true []=l.length:=by
 constructor;unfold Nq;exact zDU.2 λ_ _ a=>by simp [Pq] at a
 .unfold Nq;have:=(zDJ (p:=Pq l true []) (l:=List.range l.length)).2 (λ_ _=>rfl);rw [this];simp
def fA (a):EndOk (aG a) a.length:=by
 refine ⟨aO a,?_,λc b=>?_⟩
 .unfold aG dQ;rw [zAb,zAo zs];simp
 .unfold aG dQ;rw [zAb,zAn (by simpa using b),zAf,zAa b];simp
def aMg (l b):∀a,Pq l true b a=(Pq l false b a||wJ l b a)/\¬(Pq l false b a=true/\wJ l b a=true):=by
 induction b with
 | nil=>intro a;exact ⟨rfl,λi=>by simp [Pq] at i⟩
 | cons c b m=>
  intro a;obtain ⟨j,k⟩:=m (a+1);rw [aDN,aDN,aCg,j];by_cases d:aN l a < (c:Int)
  .have:¬aN l a=c:=oM;simp [d,this]
  .by_cases e:aN l a=c;have f:decide (aN l a < (c:Int))=false:=(by simpa using d);have g:decide (aN l a=c)=true:=(by simpa using e);rw [f,g,zGm,zDO,zGm,zDO,zDO];exact ⟨rfl,k⟩
   .simp [d,e]
def occ (l:List Nat) (a:List Nat):Nat:=(List.range l.length).countP (wJ l a)
def aHx (l a):Nq l true a=Nq l false a+occ l a:=by
 unfold Nq occ;rw [<-wW _ _ _ λb _=>(aMg l a b).2];exact zDy λb _=>by rw [(aMg l a b).1]
end
section
open Go.RowKit
def lW (c:IntKind) (n:Nat) (a:Nat->Nat):Array Value:=((List.range n).map λb=>Value.int c ((a b:Nat):Int)).toArray
def nI (b:IntKind) (n a):(lW b n a).size=n:=by simp [lW]
def gX {c:IntKind} {n b a} (d:a < n):(lW c n b)[a]?=some (.int c ((b a:Nat):Int)):=by
 unfold lW;rw [zCy,zAf,zCk d];rfl
def xC {c:IntKind} {n b a} (d:¬a < n):(lW c n b)[a]?=none:=zDn (by rw [nI];omega)
def dP {d:IntKind} {n b c} (e:∀a,a < n->b a=c a):lW d n b=lW d n c:=by
 unfold lW;congr 1;exact zFb λa f=>by rw [e a (zCj.1 f)]
def nJ {e:IntKind} {n f d i} (g:d < n):(lW e n f).setIfInBounds d (.int e ((i:Nat):Int))=lW e n (λc=>if c=d then i else f c):=by
 apply zEO;intro c;rw [zCd,nI];by_cases b:c < n
 .rw [gX b,gX b];by_cases a:d=c
  .subst a;rw [zBx rfl,zBx b,zBx rfl]
  .rw [zBw a,zBw (λg=>a g.symm)]
 .rw [xC b,xC b];by_cases a:d=c
  .subst a;rw [zBx rfl,zBw b]
  .rw [zBw a]
def rX (b:IntKind) (n):Array.replicate n (Value.int b 0)=lW b n (λ_=>0):=by
 apply zEO;intro c;by_cases a:c < n;rw [gX a,Array.getElem?_replicate,zBx a];rfl
 .rw [xC a,Array.getElem?_replicate,zBw a]
def aJw (b:IntKind) (n a):(lW b n a).toList=(List.range n).map λc=>Value.int b ((a c:Nat):Int):=rfl
def aKI (a:Option Addr) (n c b:Nat):Array Value:=#[.slice a n c,.int .i64 b,.bool false]
def oV {gr:Nat} {A} {n c B at_ to_ v:Nat} (aA:Nat) {l w} (a:Bk w gr 168 (aKI A n c at_)) (j:Rd w B 1 A n (l.map bv)) (i:n<=c) (f:c<=maxLen) (g:fF l (at_:Int)=(v,(to_:Int),0)) (t:v<=aA) (s:aA<=4611686018427387904):
 Calls prog 138 #[gr,(aA:Int)] w λe d=>e=.returned (.int .i64 v)/\Bk d gr 168 (aKI A n c to_)/\Keep (λb=>b=gr) w d:=by
 have o:w.cell? gr=some (.slice A n c):=a.cell 0;have q:w.cell? ⟨gr,1,none⟩=some (.int .i64 at_):=a.cell 1;have r:=a.frozen 1;have k:¬((v:Int) > aA):=oM;have u:=zBy k;have m:¬aA < v:=oM;have x:=zBy m;have y:IntKind.u64.wrap aA=(aA:Int):=zv
 have z:IntKind.i64.wrap v=(v:Int):=zu
 go_enter func138,ntmps138;go_wp2_with fail;go_quiet (exact tB (fZ g (j.drewN _) i f));go_wp2_with fail;go_ret;exact ⟨rfl,(a.drewN nq).set 1 _,((ke (λb=>b=gr) w).drewN nq).setCell (p:=⟨gr,1,none⟩) (.inl rfl) _⟩
def vI {gr:Nat} {A} {n c B at_ q k:Nat} (a:Nat) {l w} (f:Bk w gr 168 (aKI A n c at_)) (t:Rd w B 1 A n (l.map bv)) (J:n<=c) (H:c<=maxLen) (T:n<=1099511627776) (o:fF l (at_:Int)=(k,(q:Int),0)) (U:q+(k+4)=a) (ht:a<=n):
 Calls prog 139 #[gr] w λj x=>j=.returned (.slice (dH A c q 1) k (c - q))/\Bk x gr 168 (aKI A n c a)/\Keep (λy=>y=gr) w x:=by
 have s:=oV n f t J H o oM oM;have z:w.cell? gr=some (.slice A n c):=f.cell 0;clear f t o;go_enter func139,ntmps139;go_wp2_with fail;refine s.mono ?_;clear s;rintro j w1 ⟨rfl,d,r⟩;have C:w1.cell? gr=some (.slice A n c):=d.cell 0;have D:w1.cell? ⟨gr,1,none⟩=some (.int .i64 q):=d.cell 1;have E:w1.cell? ⟨gr,2,none⟩=some (.bool false):=d.cell 2;have G:=d.frozen 1;obtain ⟨b,I⟩:∃b,n - q=b+4:=⟨n - q - 4,by omega⟩;have L:IntKind.i64.wrap (n -q)=((b+4:Nat):Int):=zu
 have M:IntKind.i64.wrap ((b+4:Nat) - 4)=(b:Int):=zu
 have u:¬((k:Int) > b):=oM;have N:=zBy u;have v:¬b < k:=oM;have O:=zBy v;clear z;go_wp2_with fail;go_quiet (fail);go_wp2_with fail;have F:((q:Int)+((k:Int)+4))=(a:Int):=oM;rw [F];have e:=(d.drewN nq).set 1 (.int .i64 a);have i:=(r.drewN nq).setCell (p:=⟨gr,1,none⟩) (.inl rfl) (.int .i64 a);generalize (w1.drewN nq).setCell ⟨gr,1,none⟩ (.int .i64 a)=w2 at e i⊢;have R:w2.cell? gr=some (.slice A n c):=e.cell 0;have S:w2.cell? ⟨gr,1,none⟩=some (.int .i64 a):=e.cell 1;obtain ⟨g,W⟩:=eqx (q+k);have Z:IntKind.i64.wrap (a -k)=((q+4:Nat):Int):=zu
 have a0:IntKind.i64.wrap ((q+4:Nat) - 4)=(q:Int):=zu
 have a1:IntKind.i64.wrap (a - 4)=(g:Int):=zu
 have K:=λw=>kN (P:=prog) 22 5 1 underlying22 (λw=>by kernel_rfl) A n c q g oM oM w;have m:g - q=k:=oM;rw [m] at K;have V:q<=1099511627776:=oM;have X:a<=1099511627776:=oM;have Y:q+k+4=a:=oM;clear d r C D E G I L M u N v O m;go_quiet (fail);go_wp2_with fail;go_ret;exact ⟨rfl,e.drewN _,i.drewN _⟩
end
section
def aI0 {a b} (i:IsSuf (aG a) b) {c:Nat} (f:b[c]?=some 0):(aH (aG a) b)[c]?=some 0:=by
 unfold aH;rw [zAf,f];obtain ⟨d,e,g⟩:=fA a;show some (bS (aG a) 0)=some 0;rw [bV oM,d];have:a.length+1 - 1=a.length:=oM;rw [this,e]
def aG3 {a e} (i:IsSuf (aG a) e):(aH (aG a) e).count 0=1:=by
 obtain ⟨c,f,g⟩:=fA a;unfold aH;rw [zEU,zEr,i.count,c,iE (m:=a.length) _ (λb=>(aG a).getD b 0==0)]
 .rw [zDx,zFj];have j:(List.range a.length).countP (λb=>(aG a).getD b 0==0)=0:=zDU.2 λb d k=>by have:=g b (zCj.1 d);rw [zCr] at k;omega
  rw [j];simp only [List.countP_singleton,f];rfl
 .simp only [Function.comp];rw [bV oM,c];congr 2
 .intro b d;simp only [Function.comp];rw [bL oM]
def aIU {b c d} (g:b[c]?=some d) (a):cR b a (c+1)=if a=d then cR b a c+1 else cR b a c:=by
 unfold cR;rw [zAv,g,zCc];by_cases e:a=d;subst e;rw [zBx rfl];simp;omega
 .rw [zBw e];have:([d]:List Nat).count a=0:=(by rw [List.count_eq_zero];intro f;simp at f;exact e f);show _+((b.take c).count a+ [d].count a)=_;rw [this,zBq]
end
section
open Go.RowKit
def aHA {j k:Option Addr} {n:Nat} (q r:Nat) {g:Nat} {d:List Nat} {b:World} (o:Rd b g 1 j n (d.map sv)) (w:Rd b g 1 k n (d.map sv)) (hB:g<=b.heap.size) (D:n<=1099511627776):
 Calls prog 50 #[.slice j n q,.slice k n r] b λs y=>s=.returned (.bool true)/\Below b.heap.size b y:=by
 have B:d.length=n:=by have:=o.1;simpa using this
 go_enter func50,ntmps50;go_wp2_with fail;go_loopw [13] (λi wr=>∃c:Nat,c<=n/\i=.int .i64 c/\Below b.heap.size b wr) (λi _=>n -(intOf i).toNat)
 case atStart=>exact ⟨0,by omega,rfl,kg _ _⟩
 case round=>
  obtain ⟨c,C,rfl,a⟩:=hrel;by_cases m:c < n
  .obtain ⟨b1,E,G,rfl,z,e,t⟩:=(o.below (a.mono hB)).get m;obtain ⟨b2,F,H,rfl,A,f,u⟩:=(w.below (a.mono hB)).get m;obtain ⟨p,x⟩:∃p,d[c]?=some p:=⟨_,zAa oM⟩;rw [zAf,x] at e f;injection e with e;injection f with f;subst e f;unfold sv at t u;go_wp2_with fail;go_quiet (fail);go_wp2_with fail;go_roundw
   case rel=>exact ⟨c+1,by omega,by go_num,⟨a.os,a.tape,a.output,a.size,a.block⟩⟩
   case measure=>exact zr
  .have v:c=n:=oM;subst v;go_wp2_with fail;go_ret;exact ⟨rfl,a⟩
def aA8 {A A2:Option Addr} {n:Nat} (a b:Nat) {B:Nat} {L:List Nat} {w:World} (d:Rd w B 1 A n (L.map sv)) (e:Rd w B 1 A2 n (L.map sv)) (hB:B<=w.heap.size) (i:n<=1099511627776):
 Calls prog 200 #[.slice A n a,.slice A2 n b] w λc j=>c=.returned (.bool true)/\Below w.heap.size w j:=by
 have g:=aHA a b d e hB i;clear d e;go_enter func200,ntmps200;go_wp2_with fail;refine g.mono ?_;rintro c w1 ⟨rfl,f⟩;go_wp2_with fail;go_ret;exact ⟨rfl,f⟩
def aBt {A A2:Option Addr} {n n2:Nat} (d e:Nat) {B:Nat} {l l2:List UInt8} {w:World} (f:Rd w B 1 A n (l.map bv)) (g:Rd w B 1 A2 n2 (l2.map bv)):
 Calls prog 49 #[.slice A n d,.slice A2 n2 e] w λi p=>i=.returned (.bool (l==l2))/\Below w.heap.size w p:=by
 have m:(convert 22 9 (.slice A n d)).run prog w=.ok (.string ⟨l.toArray⟩) w:=nX (P:=prog) 22 9 5 underlying22 underlying5 underlying9 f;have o:(convert 22 9 (.slice A2 n2 e)).run prog w=.ok (.string ⟨l2.toArray⟩) w:=nX (P:=prog) 22 9 5 underlying22 underlying5 underlying9 g;obtain ⟨q,a⟩:∃c:ByteArray,⟨l.toArray⟩=c:=⟨_,rfl⟩;obtain ⟨r,b⟩:∃c:ByteArray,⟨l2.toArray⟩=c:=⟨_,rfl⟩;rw [a] at m;rw [b] at o;have j:q.toList=l:=by rw [<-a,ByteArray.toList_eq]
 have k:r.toList=l2:=by rw [<-b,ByteArray.toList_eq]
 clear a b f g;go_enter func49,ntmps49;go_wp2_with fail;go_ret;refine ⟨?_,kg _ _⟩;rw [<-j,<-k];rfl
def aDT {o g t A B C z p P c a y s} (row) {d} (i:PermAt d o g t A B C z p P c a y s) (m:c.Pairwise (λq r=>aF a q < aF a r)) (x:c.length<=1099511627776) (k:∀b∈c,aF a b≠row):
 Calls prog 134 #[g,(row:Int)] d λf D=>f=.returned (.int .i64 (-1))/\Below d.heap.size d D:=by
 have e:=lS row i m x;have j:decide (∃b∈c,aF a b=row)=false:=by simp only [decide_eq_false_iff_not];rintro ⟨b,u,v⟩;exact k b u v
 rw [j] at e;clear i m k j;go_enter func134,ntmps134;go_wp2_with fail;refine e.mono ?_;rintro f w1 ⟨rfl,w⟩;clear e;go_wp2_with fail;go_ret;exact ⟨rfl,w⟩
def aDS {F p L Z a0 a1 Y G P e a X K row g t} (j:PermAt t F p L Z a0 a1 Y G P e a X K) (m:e.Pairwise (λi o=>aF a i < aF a o)) (O:e.length<=1099511627776) (a6:a.length<=1099511627776) (k:g∈e) (w:aF a g=row):
 Calls prog 134 #[p,(row:Int)] t λy a2=>y=.returned (.int .i64 (aS a g:Nat))/\Below t.heap.size t a2:=by
 have q:=lS row j m O;have C:decide (∃x∈e,aF a x=row)=true:=zBz ⟨g,k,w⟩;rw [C] at q;obtain ⟨d,s,U⟩:=(wZ m row).2 ⟨g,k,w⟩;obtain ⟨f,E⟩:∃f,(e.countP λx=>decide (aF a x < row))=f:=⟨_,rfl⟩;rw [E] at s q;have W:d=g:=by
  obtain ⟨i,B,u⟩:=zBo.1 k;obtain ⟨o,v⟩:=zAc.1 s;rcases zDD i f with b | b | b;have:=zAr.1 m i f B o b;rw [u,v] at this;omega
  .subst b;rw [<-u,<-v]
  have:=zAr.1 m f i o B b;rw [u,v] at this;omega
 subst W;have ad:f < e.length:=(zAc.1 s).1;have V:d < a.length:=j.lt d k;obtain ⟨z,I,T,aa,M⟩:=kj j.t oM;obtain ⟨A,J,S,ab,N⟩:=kj j.u oM;subst T;subst S;have R:=(cL a d V).2;have ac:(f:Int) < e.length:=oM;have ae:(d:Int) < a.length:=oM;clear m C U E k w;go_enter func134,ntmps134;go_wp2_with fail;refine q.mono ?_;rintro y w1 ⟨rfl,r⟩;have b:=j.below r;have a3:∀c,(w1.drewN c).cell? ⟨p,1,none⟩=some (.slice (some A) a.length J):=λc=>(b.a.cell 1).trans rfl;have a4:∀c,(w1.drewN c).cell? ⟨p,2,none⟩=some (.slice (some z) e.length I):=λc=>(b.a.cell 2).trans rfl;have a9:=b.a.lt;have a5:∀c,(w1.drewN c).cell? ⟨z,f,none⟩=some (.int .i64 d):=λc=>(kh b.t f oM).trans (by rw [zAf,s];rfl);have H:∀c,(w1.drewN c).cell? ⟨A,d*2+1,none⟩=some (.int .i64 (aS a d:Nat)):=λc=>(kh b.u (d*2+1) oM).trans R;have a7:=zAl M r.size;have a8:=zAl N r.size;obtain ⟨af,D⟩:=eqx (aS a d);rw [D] at H;clear q b;go_wp2_with fail;go_quiet (fail);go_wp2_with fail;go_ret;exact ⟨by rw [D];rfl,km r _⟩
end
section
open Go.RowKit Go.Shelf
attribute [local go_sem] Oper.semAt_some
section
variable {P : Program} {ops : Array Oper} {md : Region.Mode} {Q : Exit -> Act -> World -> Prop} {l n : Nat}
def aIh {f:Oper} {e:Act} {d:Act->World->Prop} {b:Result Next} (a:f.upon P e d Q b):f.uponIn (Fence.wide.inRound l) n P e d Q b:=by
 cases b with
 | ok c s=>
  cases c with
  | value g=>exact a
  | skip=>exact a
  | defer t=>exact a
  | enter u j=>
   refine ⟨λa=>(by simp [Fence.wide] at a),CallsIn.inRound l (callsIn_wide.2 (Calls.mono a ?_))⟩;intro o i p;cases o <;> exact p
  | row row j=>
   refine ⟨λa=>(by simp [Fence.wide] at a),λk m _=>?_⟩;obtain ⟨g,i,q,r⟩:=a k m;exact ⟨g,i,q,stepsIn_wide.2 r⟩
  | _=>exact a.elim
 | halt c s=>cases c <;> exact a
def aFZ (r:¬LetsOut Q) (p:∀(e:Nat) (f:Oper),ops[e]?=some f->∀o,f.op≠.defer o):∀(d:Nat) (i:Array Bool) (b:Act) (c:World),wpAny P md ops Q d i b c->wpAnyIn (Fence.wide.inRound l) n P md ops Q d i b c:=by
 intro d
 induction d with
 | zero=>intro i b c g;exact g
 | succ d k=>
  intro i b c g;refine ⟨g.1,λe q=>?_⟩;have a:=g.2 e q;unfold wpOp at a;unfold wpOpIn;cases j:ops[e]? with
  | none=>
   rw [j] at a;exact k _ _ _ a
  | some f=>
   rw [j] at a;simp only at a⊢;by_cases m:Region.wanted f (yielded ops b.tmps)=true;rw [zBx m] at a⊢;rcases a with a | a;refine ⟨λ_ _=>trivial,?_⟩;rw [Oper.semAt_eq _ _ _ (p e f j)];exact aIh (Oper.wp_mono (λb c=>k _ b c) a);exact absurd a.2 r;rw [zBw m] at a⊢;exact ⟨λ_ _=>trivial,k _ _ _ a⟩
end
def KpB (b1 b2:Nat) (b c:World):Prop:=∀a:Addr,(a.block=b1∨a.block=b2)->c.cell? a=b.cell? a
def KpB.trans {b1 b2 a b c} (f:KpB b1 b2 a b) (g:KpB b1 b2 b c):KpB b1 b2 a c:=λe d=>(g e d).trans (f e d)
def bkL (a:List UInt8) (c:Nat):List (Nat×UInt8):=(List.range c).map λb=>(a.length - 1 - b,a.getD (a.length - 1 - b) 0)
def aL2 (a b):bkL a (b+1)=bkL a b++ [(a.length - 1 - b,a.getD (a.length - 1 - b) 0)]:=by simp [bkL,zDx]
def aNt (b a):(bkL b a).length=a:=by simp [bkL]
def aD9 (p:Fence) (n) (L:p.fn 186) (O:p.round=none) (Y:1<=n) (l j m u D v b) (F:0 < b.length->v=some ⟨m,u,none⟩) (N:b.length<=1000000) {k:List (Nat×UInt8)->World->Prop} (w:List (Nat×UInt8)->World->Prop) (H:∀g i d,k g d->g.length < b.length->YieldAt p (n - 1) prog l #[(i.1:Int),.int .u8 i.2.toNat] d λc e=>
 (c=.returned (.bool true)/\k (g++ [i]) e/\KpB j m d e)∨(c=.returned (.bool false)/\w (g++ [i]) e)) {d} (x:d.cell? j=some (.slice v b.length D)) (I:∀a,a < b.length->d.cell? ⟨m,u+a,none⟩=some (.int .u8 ((b.getD a 0).toNat:Int))) (E:k [] d):
 CallsIn p n prog 186 #[.func (.yield l) #[] #[],j] d λc e=>(∃S,c=.returned S)/\
  ((∃C,C=bkL b b.length/\k C e)∨(∃g,True/\w g e)):=by
 obtain ⟨len,f⟩:=eqx b.length;rw [f] at x N;refine callsIn_of_wp func186 rfl L ?_ O;simp only [ntmps186,List.size_toArray,zCg,zDM,Nat.reduceAdd,Nat.reduceSub,Array.replicate_succ,Array.replicate_zero,List.push_toArray,List.append_toArray,zDH,zEm]
 gi_wp2
 gi_loopw [3] (λt wr=>∃o:Nat,o<=len/\t=.int .i64 ((o:Int) - 1)/\k (bkL b (len - o)) wr/\KpB j m d wr) (λt _=>(intOf t+1).toNat)
 case atStart=>exact ⟨len,zAs _,rfl,by rw [zDK];exact E,λ_ _=>rfl⟩
 case round=>
  obtain ⟨o,Z,rfl,q,r⟩:=hrel;rcases o with _ | a
  .have c:((0:Nat):Int) - 1=-1:=oM;rw [c];rw [Nat.sub_zero] at q;clear r
   gi_wp2
   go_end0;exact ⟨⟨_,rfl⟩,.inl ⟨_,rfl,by rw [f];exact q⟩⟩
  .have c:((a+1:Nat):Int) - 1=a:=oM;rw [c];have A:bkL b (len - a)=bkL b (len -(a+1))++ [(a,b.getD a 0)]:=(by rw [show len - a=(len -(a+1))+1 by omega,aL2,f,show len - 1 -(len -(a+1))=a by omega]);have J:=(r ⟨j,0,none⟩ (.inl rfl)).trans x;rw [F (by rw [f];omega)] at J;have K:=(r ⟨m,u+a,none⟩ (.inr rfl)).trans (I a (by rw [f];omega));have X:a < len:=oM;obtain ⟨i,B⟩:=eqx (b.getD a 0);rw [B] at K A;obtain ⟨W,a0,U,V,R,G⟩:=H (bkL b (len -(a+1))) (a,i) wr q (by rw [aNt,f];omega);dsimp only at R;clear q c B
   gi_wp2
   refine G.mono ?_;rintro c T (⟨rfl,y,M⟩|⟨rfl,z⟩)
   .have s:=y;clear y
    gi_wp2
    go_roundw
    case rel=>exact ⟨a,by omega,rfl,by rw [A];exact s,r.trans M⟩
    case measure=>simp [intOf]
   .have s:=z;clear z
    gi_wp2
    refine bodyPost_ret (results_none rfl _ _ _) rfl ?_;exact ⟨⟨_,rfl⟩,.inr ⟨_,trivial,s⟩⟩
end
section
open Go.RowKit
def aKS (l e):∀c,wJ l e c=true↔∀(a d:Nat),e[a]?=some d->aN l (c+a)=(d:Int):=by
 induction e with
 | nil=>intro c;exact ⟨λ_ a d b=>by simp at b,λ_=>rfl⟩
 | cons k e j=>
  intro c;rw [aCg,zBd,zCa,j];constructor
  .rintro ⟨f,g⟩ a d b;rcases a with _ | a;simp at b;subst b;exact f
   .have:=g a d (by simpa using b);rwa [show c+(a+1)=c+1+a by omega]
  .intro b;refine ⟨b 0 k zs,λa d i=>?_⟩;have:=b (a+1) d (by simpa using i);rwa [show c+1+a=c+(a+1) by omega]
def rY {d c a} (b:d[c]?=some a):aN (aG d) c=((a.toNat+1:Nat):Int):=by
 have e:=(zAc.1 b).1;refine mG ?_;unfold aG dQ;rw [zAn (by simpa using e),zAf,b];rfl
def aGC (d j c):wJ (aG d) (dQ j) c=true↔∀(a:Nat) (b:UInt8),j[a]?=some b->d[c+a]?=some b:=by
 rw [aKS];constructor
 .intro f a b g;have:=f a (b.toNat+1) (by unfold dQ;rw [zAf,g];rfl);cases ht:d[c+a]? with
  | none=>
   exfalso;have m:=List.getElem?_eq_none_iff.1 ht;rcases zFL m with e | e
   .have:aN (aG d) (c+a)=0:=by
     rw [mG (x:=0)];rfl
     .unfold aG dQ;rw [zAo zt];simp [e]
    omega
   have:aN (aG d) (c+a)=-1:=pC (by rw [aO];omega);omega
  | some k=>
   rw [rY ht] at this;have e:k.toNat=b.toNat:=oM;rw [UInt8.toNat_inj.1 e]
 intro f a o i;unfold dQ at i;rw [zAf] at i;obtain ⟨b,g,rfl⟩:=zEF.1 i;exact rY (f a b g)
def aMa (a):aN (aG a) a.length=0:=by
 refine mG (x:=0) ?_;unfold aG dQ;rw [zAo zs];simp
end
end Go.Proofs.YtknjfpcdhdmghaaGreatDoor
