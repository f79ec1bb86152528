/- Lemmas of the walk. Conditions: each its own. -/
import Derived.Test.YtlghmcogeipojaaGreatDoorPn0
set_option linter.all false
set_option maxRecDepth 100000
set_option maxHeartbeats 4000000
open Go.Proofs.Tryz
namespace Go.Proofs.YtlghmcogeipojaaGreatDoor
open Go.RowKit Go
section
section
variable {P : Program} {ops : Array Oper} {Q : Exit -> Act -> World -> Prop} {md : Region.Mode}
def aQ (p) {S:World->World->Prop} {V} (f) {d} (t:ops.toList.filterMap (·.dst)=p) (v:kL md ops f.tmps.size=true) (x:S d d) (A:∀a c,S d a->S a c->S d c) (y:∀b m a c,V b m a->S a c->V b m c) (z:∀j l,ops[j]?=some l->eC P ops Q md S V f d j l) (u:∀(i:Operand->Value) a,S d a->(∀b g,((ops[b]?).bind (·.dst))=some g->V b (i (.tmp g)) a)->Q .normal (dJ i p f) a):
 wpAny P md ops Q ops.size (Array.replicate ops.size false) f d:=by
 refine mP (n:=ops.size) (C:=λ_ a=>S d a) (S:=λ_ _=>S) (U:=λ_ _=>True) (V:=λb _=>V b) (by rw [zR];exact t) nL v (λk b E s=>absurd s oM) x (λ_=>trivial) (λ_ _ _ _ _ a c _ _ _ _ e k=>A a c e k) (λ_ _ _ _ _ _ _ _ _ _ _ _=>trivial) (λ_ _ _ _ _ _ _ _ e=>e) (λb _ _ _ _ m _ a c _ _ _ _ _ _ e _ k=>y b m a c e k) (λj l _ w r a o _=>z j l w r a o) λi a D o B _=>qD rfl (u i a o λb g q=>B b g (aGX q) q)
end
end
def aT {α:Type} (b:List α) (a:Nat) (c:α):List α:=b.take a++c::b.drop a
def aK {α:Type} (b:List α) (a:Nat):List α:=b.take a++b.drop (a+1)
def cM {α:Type} (a:List α) {b} (c:α) (d:b<=a.length):(aT a b c).length=a.length+1:=by
 unfold aT;rw [zAi,zAj,zCg,zAw];omega
def cJ {α:Type} {l:List α} {k} (a:k < l.length):(aK l k).length+1=l.length:=by
 unfold aK;rw [zAi,zAj,zAw];omega
def jX {α:Type} (c:List α) {a} (g:α) (j:a<=c.length) (b):(aT c a g)[b]?=if b < a then c[b]? else if b=a then some g else c[b - 1]?:=by
 unfold aT;have i:(c.take a).length=a:=by rw [zAj];omega
 by_cases e:b < a
 .rw [zBx e,zAn oM,zBs,zBx e]
 .rw [zBw e,zAo oM,i];by_cases f:b=a;subst f;rw [zBx rfl,zDK];rfl
  .rw [zBw f];obtain ⟨d,rfl⟩:∃d,b=a+d+1:=⟨b - a - 1,by omega⟩;rw [show a+d+1 - a=d+1 by omega,zCf,zBt];congr 1
def eQ {α:Type} {c:List α} {a} (f:a < c.length) (b):(aK c a)[b]?=if b < a then c[b]? else c[b+1]?:=by
 unfold aK;have e:(c.take a).length=a:=by rw [zAj];omega
 by_cases d:b < a
 .rw [zBx d,zAn oM,zBs,zBx d]
 rw [zBw d,zAo oM,e,zBt];congr 1;omega
def qB {α β:Type} (a:α->β) (c:List α) (b) (d:α):(aT c b d).map a=aT (c.map a) b (a d):=by simp [aT]
def uY {α β:Type} (a:α->β) (c:List α) (b):(aK c b).map a=aK (c.map a) b:=by simp [aK]
def fU {α:Type} (a:List α) (c) (b:α):(aT a c b).Perm (b::a):=by
 unfold aT;exact (zFD).trans (by rw [zAu])
def fH {α:Type} {a:List α} {b} {c:α} (e:a[b]?=some c):(c::aK a b).Perm a:=by
 obtain ⟨f,g⟩:=zAc.1 e;have d:a=a.take b++c::a.drop (b+1):=by rw [<-g,<-zAx f,zAu]
 unfold aK;exact (zFD.symm).trans (by rw [<-d])
def rN {b c} (d) (e:c<=b.length) (a):(aT b c d).getD a false=if a < c then b.getD a false else if a=c then d else b.getD (a - 1) false:=by
 rw [zAb,jX b d e];split
 .rw [zAb]
 .split;rfl
  .rw [zAb]
def rU {b c} (d:c < b.length) (a):(aK b c).getD a false=if a < c then b.getD a false else b.getD (a+1) false:=by
 rw [zAb,eQ d];split
 .rw [zAb]
 .rw [zAb]
def aIl (d:List Bool) (c b:Nat):(d.take c).getD b false=(decide (b < c)&&d.getD b false):=by
 rw [zAb,zBs];by_cases a:b < c
 .rw [zBx a,zAb];simp [a]
 .rw [zBw a];simp [a]
def aJh (b:List Bool) (c a:Nat):(b.drop c).getD a false=b.getD (c+a) false:=by
 rw [zAb,zBt,zAb]
inductive Tr where
 | lf (b:List Bool)
 | nd (l r:Tr)
namespace Tr
def bits:Tr->List Bool
 | lf a=>a
 | nd b c=>b.bits++c.bits
def ht:Tr->Nat
 | lf _=>0
 | nd a b=>max a.ht b.ht+1
def lv:Tr->Nat
 | lf _=>1
 | nd a b=>a.lv+b.lv
def Avl:Tr->Prop
 | lf _=>True
 | nd a b=>a.Avl/\b.Avl/\a.ht<=b.ht+1/\b.ht<=a.ht+1
def Full:Tr->Prop
 | lf a=>32<=a.length/\a.length<=128
 | nd b c=>b.Full/\c.Full
def Ok:Tr->Prop
 | lf a=>1<=a.length/\a.length<=128
 | nd b c=>(nd b c).Avl/\(nd b c).Full
def aCU:Tr->Tr->Tr
 | nd b c,a=>nd b (nd c a)
 | l,a=>nd l a
def aCV:Tr->Tr->Tr
 | a,nd b c=>nd (nd a b) c
 | a,r=>nd a r
def balL:Tr->Tr
 | nd a b=>if a.ht < b.ht then aCV a b else nd a b
 | l=>l
def balR:Tr->Tr
 | nd a b=>if b.ht < a.ht then aCU a b else nd a b
 | l=>l
def bal (a b:Tr):Tr:=if b.ht+1 < a.ht then aCU (balL a) b else if a.ht+1 < b.ht then aCV a (balR b) else nd a b
def ins:Tr->Nat->Bool->Tr
 | lf b,a,c=>if b.length=128 then (if 64 < a then nd (lf (b.take 64)) (lf (aT (b.drop 64) (a - 64) c)) else nd (lf (aT (b.take 64) a c)) (lf (b.drop 64))) else lf (aT b a c)
 | nd d e,a,c=>if a<=d.bits.length then bal (d.ins a c) e else bal d (e.ins (a - d.bits.length) c)
def mend:Tr->Tr->Tr
 | lf a,lf b=>if a.length < 32∨b.length < 32 then (if a.length+b.length<=128 then lf (a++b) else nd (lf ((a++b).take ((a.length+b.length)/ 2))) (lf ((a++b).drop ((a.length+b.length)/ 2)))) else nd (lf a) (lf b)
 | lf a,nd (lf b) c=>if a.length < 32 then (if a.length+b.length<=128 then nd (lf (a++b)) c else nd (lf ((a++b).take ((a.length+b.length)/ 2))) (nd (lf ((a++b).drop ((a.length+b.length)/ 2))) c)) else nd (lf a) (nd (lf b) c)
 | nd c (lf a),lf b=>if b.length < 32 then (if a.length+b.length<=128 then nd c (lf (a++b)) else nd (nd c (lf ((a++b).take ((a.length+b.length)/ 2)))) (lf ((a++b).drop ((a.length+b.length)/ 2)))) else nd (nd c (lf a)) (lf b)
 | l,r=>nd l r
def rebal:Tr->Tr
 | lf a=>lf a
 | nd b c=>bal b c
def drp:Tr->Nat->Tr
 | lf d,a=>lf (aK d a)
 | nd b c,a=>rebal (if a < b.bits.length then mend (b.drp a) c else mend b (c.drp (a - b.bits.length)))
def aCc (a b:Tr):(aCU a b).bits=a.bits++b.bits:=by cases a <;> simp [aCU,bits]
def aCe (b a:Tr):(aCV b a).bits=b.bits++a.bits:=by cases a <;> simp [aCV,bits]
def aJv (a:Tr):(balL a).bits=a.bits:=by
 cases a with
 | lf b=>rfl
 | nd c b=>simp only [balL];split <;> simp [aCe,bits]
def aJt (a:Tr):(balR a).bits=a.bits:=by
 cases a with
 | lf b=>rfl
 | nd c b=>simp only [balR];split <;> simp [aCc,bits]
def aAO (a b:Tr):(bal a b).bits=a.bits++b.bits:=by
 unfold bal;split
 .rw [aCc,aJv]
 .split
  .rw [aCe,aJt]
  rfl
def aCb (a b:Tr):(aCU a b).Full↔a.Full/\b.Full:=by cases a <;> simp [aCU,Full,and_assoc]
def aCd (b a:Tr):(aCV b a).Full↔b.Full/\a.Full:=by cases a <;> simp [aCV,Full,and_assoc]
def aJu (a:Tr):(balL a).Full↔a.Full:=by
 cases a with
 | lf b=>rfl
 | nd c b=>simp only [balL];split <;> simp [aCd,Full]
def aJs (a:Tr):(balR a).Full↔a.Full:=by
 cases a with
 | lf b=>rfl
 | nd c b=>simp only [balR];split <;> simp [aCb,Full]
def aAN (a b:Tr):(bal a b).Full↔a.Full/\b.Full:=by
 unfold bal;split
 .rw [aCb,aJu]
 .split
  .rw [aCd,aJs]
  rfl
def bal_same (a b:Tr) (c:a.ht<=b.ht+1) (d:b.ht<=a.ht+1):bal a b=nd a b:=by
 unfold bal;rw [zBw oM,zBw oM]
def aDr {a b:Tr} (n:a.Avl) (o:b.Avl) (k:a.ht<=b.ht+2) (l:b.ht<=a.ht+2):(bal a b).Avl/\max a.ht b.ht<=(bal a b).ht/\(bal a b).ht<=max a.ht b.ht+1/\(a.ht<=b.ht+1->b.ht<=a.ht+1->(bal a b).ht=max a.ht b.ht+1):=by
 by_cases g:b.ht+1 < a.ht
 .have c:bal a b=aCU (balL a) b:=zBx g;rw [c];clear c;cases a with
  | lf d=>simp [ht] at g
  | nd e d=>
   obtain ⟨i,j,p,q⟩:=n;simp only [ht] at k l g;by_cases f:e.ht < d.ht
   .cases d with
    | lf v=>simp [ht] at f
    | nd b1 b2=>
     have c:balL (nd e (nd b1 b2))=nd (nd e b1) b2:=(by simp only [balL];rw [zBx f];rfl);rw [c];obtain ⟨r,s,w,x⟩:=j;simp only [ht] at k l g f p q;simp only [aCU,Avl,ht];refine ⟨⟨⟨i,r,by omega,by omega⟩,⟨s,o,by omega,by omega⟩,by omega,by omega⟩,by omega,by omega,by omega⟩
   .have c:balL (nd e d)=nd e d:=(by simp only [balL];rw [zBw f]);rw [c];simp only [aCU,Avl,ht];refine ⟨⟨i,⟨j,o,by omega,by omega⟩,by omega,by omega⟩,by omega,by omega,by omega⟩
 .by_cases f:a.ht+1 < b.ht
  .have c:bal a b=aCV a (balR b):=(by unfold bal;rw [zBw g,zBx f]);rw [c];clear c;cases b with
   | lf d=>simp [ht] at f
   | nd e d=>
    obtain ⟨i,j,p,q⟩:=o;simp only [ht] at k l g f;by_cases m:d.ht < e.ht
    .cases e with
     | lf v=>simp [ht] at m
     | nd t u=>
      have c:balR (nd (nd t u) d)=nd t (nd u d):=(by simp only [balR];rw [zBx m];rfl);rw [c];obtain ⟨r,s,w,x⟩:=i;simp only [ht] at k l g f m p q;simp only [aCV,Avl,ht];refine ⟨⟨⟨n,r,by omega,by omega⟩,⟨s,j,by omega,by omega⟩,by omega,by omega⟩,by omega,by omega,by omega⟩
    .have c:balR (nd e d)=nd e d:=(by simp only [balR];rw [zBw m]);rw [c];simp only [aCV,Avl,ht];refine ⟨⟨⟨n,i,by omega,by omega⟩,j,by omega,by omega⟩,by omega,by omega,by omega⟩
  rw [bal_same a b oM oM];simp only [Avl,ht];exact ⟨⟨n,o,by omega,by omega⟩,by omega,by omega,λ_ _=>trivial⟩
def aAv {α:Type} (a c:List α) {b} (e:α) (d:b<=a.length):aT (a++c) b e=aT a b e++c:=by
 unfold aT;rw [zDi d,zDC d];simp
def aAu {α:Type} (a c:List α) {b} (e:α) (d:a.length<=b):aT (a++c) b e=a++aT c (b - a.length) e:=by
 unfold aT;rw [zEI,zFE,zAg d,zFh d];simp
def aG1 {α:Type} {a:List α} (c:List α) {b} (d:b < a.length):aK (a++c) b=aK a b++c:=by
 unfold aK;rw [zDi oM,zDC oM];simp
def aG0 {α:Type} (a c:List α) {b} (d:a.length<=b):aK (a++c) b=a++aK c (b - a.length):=by
 unfold aK;rw [zEI,zFE,zAg d,zFh oM];simp;congr 1;omega
def ins_bits:∀(g:Tr) (b:Nat) (c:Bool),b<=g.bits.length->(g.ins b c).bits=aT g.bits b c
 | lf a,b,c,f=>by
  simp only [bits] at f;unfold ins;split
  .rename_i d
   split
   .rename_i j
    simp only [bits];have e:a=a.take 64++a.drop 64:=(zAu 64 a).symm;have i:(a.take 64).length=64:=by rw [zAj];omega
    conv=>rhs;rw [e,aAu _ _ _ oM,i]
   .rename_i j
    simp only [bits];have e:a=a.take 64++a.drop 64:=(zAu 64 a).symm;have i:(a.take 64).length=64:=by rw [zAj];omega
    conv=>rhs;rw [e,aAv _ _ _ oM]
  rfl
 | nd k l,b,c,f=>by
  simp only [bits,zAi] at f;unfold ins;split
  .rename_i d
   rw [aAO,ins_bits k b c d,bits,aAv _ _ _ d]
  .rename_i d
   rw [aAO,ins_bits l _ c oM,bits,aAu _ _ _ oM]
def qA:∀(e:Tr) (b:Nat) (c:Bool),b<=e.bits.length->e.Full->(e.ins b c).Full
 | lf f,b,c,d,a=>by
  simp only [bits,Full] at d a;unfold ins;split
  .rename_i g
   have l:(f.take 64).length=64:=(by rw [zAj];omega);have k:(f.drop 64).length=64:=(by rw [zAw];omega);split;simp only [Full];rw [cM _ _ oM];omega;simp only [Full];rw [cM _ _ oM];omega
  simp only [Full];rw [cM _ _ d];omega
 | nd i j,b,c,d,a=>by
  simp only [bits,zAi,Full] at d a;unfold ins;split
  .rename_i g
   rw [aAN];exact ⟨qA i b c g a.1,a.2⟩
  rw [aAN];exact ⟨a.1,qA j _ c oM a.2⟩
def ins_avl:∀(c:Tr) (a:Nat) (b:Bool),c.Avl->(c.ins a b).Avl/\c.ht<=(c.ins a b).ht/\(c.ins a b).ht<=c.ht+1
 | lf o,a,b,d=>by
  unfold ins;split
  .split <;> simp [Avl,ht]
  .simp [Avl,ht]
 | nd i n,a,b,d=>by
  simp only [Avl] at d;obtain ⟨f,g,p,q⟩:=d;unfold ins;split
  .obtain ⟨e,l,m⟩:=ins_avl i a b f;obtain ⟨b1,b2,j,k⟩:=aDr e g oM oM;refine ⟨b1,?_,?_⟩<;> simp only [ht] <;> omega
  .obtain ⟨e,l,m⟩:=ins_avl n (a - i.bits.length) b g;obtain ⟨b1,b2,j,k⟩:=aDr f e oM oM;refine ⟨b1,?_,?_⟩<;> simp only [ht] <;> omega
def ins_ok (c:Tr) (a d) (g:a<=c.bits.length) (f:c.Ok):(c.ins a d).Ok:=by
 cases c with
 | lf e=>
  simp only [Ok,bits] at f g;unfold ins;split
  .have p:(e.take 64).length=64:=(by rw [zAj];omega);have o:(e.drop 64).length=64:=(by rw [zAw];omega);split
   .simp only [Ok,Avl,Full,ht];rw [cM _ _ oM];refine ⟨⟨trivial,trivial,by omega,by omega⟩,by omega,by omega⟩
   .simp only [Ok,Avl,Full,ht];rw [cM _ _ oM];refine ⟨⟨trivial,trivial,by omega,by omega⟩,by omega,by omega⟩
  simp only [Ok];rw [cM _ _ g];omega
 | nd i j=>
  have b:=(ins_avl (nd i j) a d f.1);have k:=qA (nd i j) a d g f.2;cases l:(nd i j).ins a d with
  | lf e=>
   rw [l] at b;simp [ht] at b
  | nd m n=>
   rw [l] at b k;exact ⟨b.1,k⟩
def Near (b:Tr):Prop:=b.Full∨∃a,b=lf a/\a.length=31
def mend_bits (a b:Tr):(mend a b).bits=a.bits++b.bits:=by
 unfold mend;split
 .split
  .split <;> simp [bits]
  .simp [bits]
 .split
  .split <;> simp [bits];rw [<-zCo,zAu,zCo]
  .simp [bits]
 .split
  .split <;> simp [bits]
  .simp [bits]
 rfl
def aAm {a} (b:Near (lf a)):31<=a.length/\a.length<=128:=by
 rcases b with b |⟨d,c,e⟩;simp only [Full] at b;omega;injection c with c;subst c;omega
def aC5 {b c:Tr} (a:Near (nd b c)):(nd b c).Full:=by
 rcases a with a |⟨e,d,_⟩;exact a
 .cases d
def zI {t:Tr} (b:t.ht=0):∃a,t=lf a:=by
 cases t with
 | lf a=>exact ⟨a,rfl⟩
 | nd c d=>simp [ht] at b
def aAe {b a:Tr} (B:b.Avl) (D:a.Avl) (q:Near b) (j:Near a) (F:b.Full∨a.Full) (z:b.ht<=a.ht+2) (A:a.ht<=b.ht+2) (v:¬b.Full->a.ht<=1) (w:¬a.Full->b.ht<=1):
 (rebal (mend b a)).Avl/\(rebal (mend b a)).Full/\max b.ht a.ht<=(rebal (mend b a)).ht/\(rebal (mend b a)).ht<=max b.ht a.ht+1/\(b.Full->a.Full->b.ht<=a.ht+1->a.ht<=b.ht+1->(rebal (mend b a)).ht=max b.ht a.ht+1):=by
 have k:mend b a=nd b a->b.Full->a.Full->(rebal (mend b a)).Avl/\(rebal (mend b a)).Full/\max b.ht a.ht<=(rebal (mend b a)).ht/\(rebal (mend b a)).ht<=max b.ht a.ht+1/\(b.Full->a.Full->b.ht<=a.ht+1->a.ht<=b.ht+1->(rebal (mend b a)).ht=max b.ht a.ht+1):=λe x y=>by rw [e];obtain ⟨b1,b2,s,u⟩:=aDr B D z A;exact ⟨b1,(aAN b a).2 ⟨x,y⟩,b2,s,λ_ _=>u⟩
 cases b with
 | lf d=>
  have L:=aAm q;cases a with
  | lf c=>
   have H:=aAm j;by_cases f:d.length < 32∨c.length < 32
   .have K:63<=d.length+c.length:=(by simp only [Full] at F;omega);by_cases i:d.length+c.length<=128
    .have e:mend (lf d) (lf c)=lf (d++c):=(by simp only [mend];rw [zBx f,zBx i]);rw [e];simp only [rebal,Avl,Full,ht,zAi];refine ⟨trivial,by omega,by omega,by omega,λ_ _=>by omega⟩
    .have e:mend (lf d) (lf c)=nd (lf ((d++c).take ((d.length+c.length)/ 2))) (lf ((d++c).drop ((d.length+c.length)/ 2))):=(by simp only [mend];rw [zBx f,zBw i]);rw [e];simp only [rebal];rw [bal_same _ _ (by simp [ht]) (by simp [ht])];simp only [Avl,Full,ht,zAj,zAw,zAi];refine ⟨⟨trivial,trivial,by omega,by omega⟩,⟨by omega,by omega⟩,by omega,by omega,λ_ _ _ _=>by omega⟩
   refine k (by simp only [mend];rw [zBw f]) ?_ ?_;simp only [Full];omega;simp only [Full];omega
  | nd l r=>
   have p:=aC5 j;by_cases f:d.length < 32
   .have E:=v (by simp only [Full];omega);simp only [ht] at E;obtain ⟨c,rfl⟩:=zI (t:=l) oM;obtain ⟨g,rfl⟩:=zI (t:=r) oM;simp only [Full] at p;by_cases i:d.length+c.length<=128
    .have e:mend (lf d) (nd (lf c) (lf g))=nd (lf (d++c)) (lf g):=(by simp only [mend];rw [zBx f,zBx i]);rw [e];simp only [rebal];rw [bal_same _ _ (by simp [ht]) (by simp [ht])];simp only [Avl,Full,ht,zAi];refine ⟨⟨trivial,trivial,by omega,by omega⟩,⟨by omega,by omega⟩,by omega,by omega,λn _=>by omega⟩
    .have e:mend (lf d) (nd (lf c) (lf g))=nd (lf ((d++c).take ((d.length+c.length)/ 2))) (nd (lf ((d++c).drop ((d.length+c.length)/ 2))) (lf g)):=(by simp only [mend];rw [zBx f,zBw i]);rw [e];simp only [rebal];rw [bal_same _ _ (by simp [ht]) (by simp [ht])];simp only [Avl,Full,ht,zAj,zAw,zAi];refine ⟨⟨trivial,⟨trivial,trivial,by omega,by omega⟩,by omega,by omega⟩,⟨by omega,by omega,by omega⟩,by omega,by omega,λn _=>by omega⟩
   .refine k ?_ (by simp only [Full];omega) p;cases l with
    | lf c=>simp only [mend];rw [zBw f]
    | nd I J=>rfl
 | nd G o=>
  have m:=aC5 q;cases a with
  | lf c=>
   have H:=aAm j;by_cases f:c.length < 32
   .have C:=w (by simp only [Full];omega);simp only [ht] at C;obtain ⟨g,rfl⟩:=zI (t:=G) oM;obtain ⟨d,rfl⟩:=zI (t:=o) oM;simp only [Full] at m;by_cases i:d.length+c.length<=128
    .have e:mend (nd (lf g) (lf d)) (lf c)=nd (lf g) (lf (d++c)):=(by simp only [mend];rw [zBx f,zBx i]);rw [e];simp only [rebal];rw [bal_same _ _ (by simp [ht]) (by simp [ht])];simp only [Avl,Full,ht,zAi];refine ⟨⟨trivial,trivial,by omega,by omega⟩,⟨by omega,by omega⟩,by omega,by omega,λ_ n=>by omega⟩
    .have e:mend (nd (lf g) (lf d)) (lf c)=nd (nd (lf g) (lf ((d++c).take ((d.length+c.length)/ 2)))) (lf ((d++c).drop ((d.length+c.length)/ 2))):=(by simp only [mend];rw [zBx f,zBw i]);rw [e];simp only [rebal];rw [bal_same _ _ (by simp [ht]) (by simp [ht])];simp only [Avl,Full,ht,zAj,zAw,zAi];refine ⟨⟨⟨trivial,trivial,by omega,by omega⟩,trivial,by omega,by omega⟩,⟨⟨by omega,by omega⟩,by omega⟩,by omega,by omega,λ_ n=>by omega⟩
   .refine k ?_ m (by simp only [Full];omega);cases o with
    | lf d=>simp only [mend];rw [zBw f]
    | nd I J=>rfl
  | nd l r=>
   refine k ?_ m (aC5 j);cases o <;> cases l <;> rfl
def aGs (a:Tr):(rebal a).bits=a.bits:=by
 cases a with
 | lf b=>rfl
 | nd c d=>simp only [rebal,aAO,bits]
def drp_bits:∀(c:Tr) (a:Nat),a < c.bits.length->(c.drp a).bits=aK c.bits a
 | lf g,a,d=>rfl
 | nd e f,a,d=>by
  simp only [bits,zAi] at d;unfold drp;rw [aGs];split
  .rename_i b
   rw [mend_bits,drp_bits e a b,bits,aG1 _ b]
  .rename_i b
   rw [mend_bits,drp_bits f _ oM,bits,aG0 _ _ oM]
def drp_spec:∀(b:Tr) (a:Nat),a < b.bits.length->b.Avl->b.Full->(b.drp a).Avl/\Near (b.drp a)/\(¬(b.drp a).Full->b.ht=0)/\(b.drp a).ht<=b.ht/\b.ht<=(b.drp a).ht+1
 | lf u,a,m,_,n=>by simp only [bits,Full] at m n;have D:=cJ m;refine ⟨trivial,?_,λ_=>rfl,zAs _,by simp [ht]⟩;by_cases e:u.length=32;exact .inr ⟨aK u a,rfl,by omega⟩;refine .inl ?_;simp only [drp,Full];omega
 | nd d f,a,m,w,n=>by
  simp only [bits,zAi] at m;obtain ⟨s,t,B,C⟩:=w;obtain ⟨i,j⟩:=n;unfold drp;split
  .rename_i v
   obtain ⟨o,p,k,x,y⟩:=drp_spec d a v s i;obtain ⟨q,l,z,A,r⟩:=aAe o t p (.inl j) (.inr j) oM oM (λc=>by have:=k c;omega) (λc=>absurd j c);refine ⟨q,.inl l,λc=>absurd l c,by simp only [ht];omega,?_⟩;simp only [ht];by_cases e:(d.drp a).Full;by_cases g:(d.drp a).ht<=f.ht+1/\f.ht<=(d.drp a).ht+1;have:=r e j g.1 g.2;omega;omega;have:=k e;omega
  .rename_i v
   obtain ⟨o,p,k,x,y⟩:=drp_spec f (a - d.bits.length) oM t j;obtain ⟨q,l,z,A,r⟩:=aAe s o (.inl i) p (.inl i) oM oM (λc=>absurd i c) (λc=>by have:=k c;omega);refine ⟨q,.inl l,λc=>absurd l c,by simp only [ht];omega,?_⟩;simp only [ht];by_cases e:(f.drp (a - d.bits.length)).Full;by_cases g:d.ht<=(f.drp (a - d.bits.length)).ht+1/\(f.drp (a - d.bits.length)).ht<=d.ht+1;have:=r i e g.1 g.2;omega;omega;have:=k e;omega
def aNg {a:Tr} (c:a.Avl) (b:a.Full):a.Ok:=by
 cases a with
 | lf d=>
  simp only [Full] at b;simp only [Ok];omega
 | nd e f=>exact ⟨c,b⟩
def drp_ok (a:Tr) (b) (d:b < a.bits.length) (c:a.Ok) (i:a.bits.length≠1):(a.drp b).Ok:=by
 cases a with
 | lf j=>
  simp only [Ok,bits] at c d i;have:=cJ d;simp only [drp,Ok];omega
 | nd f g=>
  have:=drp_spec (nd f g) b d c.1 c.2;by_cases e:((nd f g).drp b).Full;exact aNg this.1 e
  .have:=this.2.2.1 e;simp [ht] at this
def lv_pos:∀b:Tr,1<=b.lv
 | lf _=>zAs _
 | nd a c=>by have:=lv_pos a;simp only [lv];omega
end Tr
section
section
variable {P : Program} {ops : Array Oper} {Q : Exit -> Act -> World -> Prop} {md : Region.Mode}
def xM {e r f} {i:Nat->World->World->Prop} {j:Nat->World->Prop} {g l n} (B:(ops.toList.take e).filterMap (·.dst)=r) (H:e<=ops.size) (G:kL md ops l.tmps.size=true) (K:((List.range ops.size).all λs=>decide (s < e)||(List.range e).all λa=>upB md ops ops.size s a)=true) (x:f n) (z:∀a,j a n) (w:∀b c d,b < e->f c->i b c d->f d) (y:∀a b c d,b < e->a≠b->upB md ops ops.size b a=false->j a c->f c->i b c d->j a d) (I:∀a b k c d,b < e->a≠b->aDt md ops a b=false->g a k c->f c->i b c d->g a k d) (J:∀b t,b < e->ops[b]?=some t->dN P ops Q md f i j g l b t) (D:∀(m:Operand->Value) c o,f c->(∀a q,a < e->((ops[a]?).bind (·.dst))=some q->g a (m (.tmp q)) c)->(∀a,a < e->∃k,g a k c)->wpAny P md ops Q (ops.size - e+o) (bT e ops.size) (dJ m r l) c):
 wpAny P md ops Q ops.size (Array.replicate ops.size false) l n:=by
 exact mP (C:=λ_=>f) (S:=λb _=>i b) (U:=j) (V:=λa _=>g a) B H G (aHI K) x z (λb _ _ _ _ c d p _ _ _=>w b c d p) (λa b _ _ c d=>y a b c d) (λ_ _ _ _ _ _ _ _ p=>p) (λa b _ _ _ k _ c d F E _ _ u v=>I a b k c d F u (aHf E v)) J λm c o A L M=>D m c o A L M
def iG (e r f) (g:Nat->World->World->Prop) (i:Nat->World->Prop) (j k n) (B:(ops.toList.take e).filterMap (·.dst)=r) (H:e<=ops.size) (G:kL md ops k.tmps.size=true) (K:((List.range ops.size).all λs=>decide (s < e)||(List.range e).all λb=>upB md ops ops.size s b)=true) (x:f n) (z:∀b,i b n) (w:∀a c d,a < e->f c->g a c d->f d) (y:∀b a c d,a < e->b≠a->upB md ops ops.size a b=false->i b c->f c->g a c d->i b d) (I:∀b a m c d,a < e->b≠a->aDt md ops b a=false->j b m c->f c->g a c d->j b m d) (J:∀a t,a < e->ops[a]?=some t->dN P ops Q md f g i j k a t) (D:∀(l:Operand->Value) c o,f c->(∀b q,b < e->((ops[b]?).bind (·.dst))=some q->j b (l (.tmp q)) c)->wpAny P md ops Q (ops.size - e+o) (bT e ops.size) (dJ l r k) c):
 wpAny P md ops Q ops.size (Array.replicate ops.size false) k n:=by
 exact mP (C:=λ_=>f) (S:=λa _=>g a) (U:=i) (V:=λb _=>j b) B H G (aHI K) x z (λa _ _ _ _ c d p _ _ _=>w a c d p) (λb a _ _ c d=>y b a c d) (λ_ _ _ _ _ _ _ _ p=>p) (λb a _ _ _ m _ c d F E _ _ u v=>I b a m c d F u (aHf E v)) J λl c o A L _=>D l c o A L
def bJ {d a b e} {c:Act->World->Prop} (i:ops[d]?=some a) (g:a.guard=none) (f:Oper.upon P a b c Q ((execOp b.eval a).run P e)):wpOp P ops Q d c b e:=by
 unfold wpOp;simp only [i];have j:Region.wanted a (yielded ops b.tmps)=true:=by unfold Region.wanted;rw [g]
 rw [zBx j];exact .inl f
end
end
namespace Tr
def cut (a:List Bool) (b c d:Nat):List Bool:=(a.take (a.length*d / b)).drop (a.length*c / b)
def bld (a:List Bool) (b:Nat):Nat->Nat->Nat->Tr
 | 0,f,t=>lf (cut a b f t)
 | u+1,f,t=>if t - f=1 then lf (cut a b f t) else nd (bld a b u f ((f+t)/ 2)) (bld a b u ((f+t)/ 2) t)
def cut_len {bs:List Bool} {a f b:Nat} (c:0 < a) (ht:b<=a):(cut bs a f b).length=bs.length*b / a - bs.length*f / a:=by
 unfold cut;rw [zAw,zAj,zCu];exact Nat.div_le_of_le_mul (by rw [zFY];exact zEk _ ht)
def aNm {a b d c e} (j:d<=c) (k:c<=e):cut a b d c++cut a b c e=cut a b d e:=by
 unfold cut;have l:a.length*d / b<=a.length*c / b:=zEV (zGf _ j);have f:a.length*c / b<=a.length*e / b:=zEV (zGf _ k);generalize a.length*d / b=x at*
 generalize a.length*c / b=y at*
 generalize a.length*e / b=z at*
 have g:a.take y=(a.take z).take y:=by rw [zEy,zCu f]
 rw [g,List.drop_take];have i:(a.take z).drop y=((a.take z).drop x).drop (y - x):=by rw [zFB];congr 1;omega
 rw [i,zAu]
def bld_bits (d:List Bool) (e:Nat):∀c a b,a < b->b - a<=c+1->(bld d e c a b).bits=cut d e a b
 | 0,a,b,_,_=>rfl
 | c+1,a,b,h,hu=>by
  unfold bld;split;rfl
  .show (bld d e c a ((a+b)/ 2)).bits++(bld d e c ((a+b)/ 2) b).bits=_;rw [bld_bits d e c _ _ oM oM,bld_bits d e c _ _ oM oM,aNm oM oM]
def Hn:Nat->Nat->Nat
 | 0,_=>0
 | u+1,d=>if d=1 then 0 else max (Hn u (d / 2)) (Hn u (d - d / 2))+1
def xB (d:List Bool) (e:Nat):∀c a b,a < b->(bld d e c a b).ht=Hn c (b - a)
 | 0,a,b,_=>rfl
 | c+1,a,b,h=>by
  unfold bld Hn;split;rfl
  .show max (bld d e c a ((a+b)/ 2)).ht (bld d e c ((a+b)/ 2) b).ht+1=_;rw [xB d e c _ _ oM,xB d e c _ _ oM];have f:(a+b)/ 2 - a=(b - a)/ 2:=oM;have g:b -(a+b)/ 2=b - a -(b - a)/ 2:=oM;rw [f,g]
def aNE:∀b:Fin 10,∀a:Fin 12,2<=a.val->a.val<=b.val+2->Hn b.val (a.val / 2)<=Hn b.val (a.val - a.val / 2)+1/\Hn b.val (a.val - a.val / 2)<=Hn b.val (a.val / 2)+1:=dC
def leaf_len {b a f} (e:0 < a) (i:b<=128*a):b*(f+1)/ a - b*f / a<=128:=by
 have d:b*(f+1)<=b*f+128*a:=by rw [Nat.mul_add,zBl];omega
 have g:(b*f+128*a)/ a=b*f / a+128:=Nat.add_mul_div_right _ _ e;have:=zEV (c:=a) d;omega
def aCl {b a f} (i:1 < a) (g:128*(a - 1) < b):64<=b*(f+1)/ a - b*f / a:=by
 have d:b*f+64*a<=b*(f+1):=by rw [Nat.mul_add,zBl];omega
 have e:(b*f+64*a)/ a=b*f / a+64:=Nat.add_mul_div_right _ _ oM;have:=zEV (c:=a) d;omega
def aAM {d:List Bool} {b:Nat} (j:1 < b) (g:d.length<=128*b) (i:128*(b - 1) < d.length):∀e a c,a < c->c - a<=e+1->c<=b->(bld d b e a c).Full
 | 0,a,c,h,hu,ht=>by have k:c=a+1:=oM;subst k;have l:=leaf_len (f:=a) oM g;have m:=aCl (f:=a) j i;show 32<=(cut d b a (a+1)).length/\(cut d b a (a+1)).length<=128;rw [cut_len oM ht];omega
 | e+1,a,c,h,hu,ht=>by unfold bld;split;have k:c=a+1:=oM;subst k;have l:=leaf_len (f:=a) oM g;have m:=aCl (f:=a) j i;show 32<=(cut d b a (a+1)).length/\(cut d b a (a+1)).length<=128;rw [cut_len oM ht];omega;exact ⟨aAM j g i e _ _ oM oM oM,aAM j g i e _ _ oM oM ht⟩
def aDp {bs:List Bool} {c:Nat}:∀d a b,a < b->b - a<=d+1->d < 11->(bld bs c d a b).Avl
 | 0,a,b,h,hu,ht=>trivial
 | d+1,a,b,h,hu,ht=>by
  unfold bld;split
  .trivial
  have:=aNE ⟨d,by omega⟩ ⟨b - a,by omega⟩ (show 2<=b - a by omega) (show b - a<=d+2 by omega);refine ⟨aDp d _ _ oM oM oM,aDp d _ _ oM oM oM,?_,?_⟩;rw [xB _ _ _ _ _ oM,xB _ _ _ _ _ oM];have e:(a+b)/ 2 - a=(b - a)/ 2:=oM;have f:b -(a+b)/ 2=b - a -(b - a)/ 2:=oM;rw [e,f];exact this.1;rw [xB _ _ _ _ _ oM,xB _ _ _ _ _ oM];have e:(a+b)/ 2 - a=(b - a)/ 2:=oM;have f:b -(a+b)/ 2=b - a -(b - a)/ 2:=oM;rw [e,f];exact this.2
def bld_lv (d:List Bool) (e:Nat):∀c a b,a < b->b - a<=c+1->(bld d e c a b).lv=b - a
 | 0,a,b,h,hu=>by show 1=b - a;omega
 | c+1,a,b,h,hu=>by unfold bld;split;show 1=b - a;omega;show (bld d e c a ((a+b)/ 2)).lv+(bld d e c ((a+b)/ 2) b).lv=_;rw [bld_lv d e c _ _ oM oM,bld_lv d e c _ _ oM oM];omega
def lvs (a:Nat):Nat:=(a+127)/ 128
def mk (a:List Bool):Tr:=bld a (lvs a.length) (lvs a.length - 1) 0 (lvs a.length)
def aH9 (b) {a} (c:0 < a):cut b a 0 a=b:=by
 unfold cut;rw [Nat.mul_zero,Nat.zero_div,zFA,Nat.mul_div_cancel _ c,zFf]
def mk_bits {a} (b:0 < a.length):(mk a).bits=a:=by
 unfold mk;have:0 < lvs a.length:=by unfold lvs;omega
 rw [bld_bits _ _ _ _ _ this oM,aH9 _ this]
def mk_ok {a} (j:0 < a.length) (p:a.length<=1100):(mk a).Ok:=by
 have f:0 < lvs a.length:=by unfold lvs;omega
 by_cases g:lvs a.length=1;have i:mk a=lf a:=(by unfold mk;rw [g];show lf (cut a 1 0 1)=lf a;rw [aH9 _ oM]);rw [i];have:(a.length+127)/ 128=1:=g;exact ⟨j,by omega⟩
 .have k:1 < lvs a.length:=oM;have l:a.length<=128*lvs a.length:=(by unfold lvs;omega);have m:128*(lvs a.length - 1) < a.length:=(by unfold lvs;omega);have o:lvs a.length<=9:=(by unfold lvs;omega);have e:=aAM k l m (lvs a.length - 1) 0 (lvs a.length) f oM nL;have d:=aDp (bs:=a) (c:=lvs a.length) (lvs a.length - 1) 0 (lvs a.length) f oM oM;have b:=bld_lv a (lvs a.length) (lvs a.length - 1) 0 (lvs a.length) f oM;show (bld a (lvs a.length) (lvs a.length - 1) 0 (lvs a.length)).Ok;revert e d b;cases bld a (lvs a.length) (lvs a.length - 1) 0 (lvs a.length) with
  | lf n=>intro _ _ b;exact absurd b (by show ¬1=_;omega)
  | nd b q=>intro e d _;exact ⟨d,e⟩
end Tr
def mM {c:FuncId} {a:Func} (i:prog.funcs[c]?=some a) (j:(a.name== "runtime.NumGoroutine")=false) (f:a.body.isSome=true):∀b d,(callFunc c b).run prog d=.ok (.enter c b) d:=λb d=>by
 have e:a.name≠ "runtime.NumGoroutine" :=by simpa using j
 obtain ⟨k,g⟩:=Option.isSome_iff_exists.1 f;simp [callFunc,i,e,g]
def mK:Nat->Nat->List UInt8
 | 0,_=> []
 | f+1,n=>if n=0 then [] else mK f (n / 128)++ [UInt8.ofNat (n % 128+128)]
def bW (a:Nat):List UInt8:=mK 10 (a / 128)++ [UInt8.ofNat (a % 128)]
def dZ (a:List Nat):List UInt8:=a.flatMap bW
def fG:List UInt8->Bool->Nat->Nat->Option (Nat×Nat)
 | [],_,_,_=>none
 | c::r,first,acc,pos=>
  if (first&&c.toNat==128)||decide (144115188075855871 < acc) then none
  else if c.toNat < 128 then some (acc*128+c.toNat % 128,pos+1) else fG r false (acc*128+c.toNat % 128) (pos+1)
def fF (b:List UInt8) (a:Int):Nat×Int×Int:=
 if a < 0∨(b.length:Int) < a then (0,a,2)
 else match fG (b.drop a.toNat) true 0 a.toNat with
  | some (c,d)=>(c,d,0)
  | none=>(0,a,4)
def aBC:Nat->Nat->List UInt8
 | 0,_=> []
 | k+1,n=>aBC k n++ [UInt8.ofNat (n / 256 ^ k % 256)]
def nD (a:Nat):List UInt8:=aBC 4 a
def ofN (b:List UInt8) (a:Nat):Nat->Nat
 | 0=>0
 | k+1=>ofN b a k+(b[a+k]?.getD 0).toNat*256 ^ k
def ofB (b:List UInt8) (a:Int):Nat×Int:=
 if a < 0∨(b.length:Int) < a then (0,2) else if (b.length:Int) - a < 4 then (0,4) else (ofN b a.toNat 4,0)
def aN9 (c b a):ofN c b a < 256 ^ a:=by
 induction a with
 | zero=>simp [ofN]
 | succ a e=>
  have:(c[b+a]?.getD 0).toNat < 256:=UInt8.toNat_lt _;simp only [ofN,zEM];have d:(c[b+a]?.getD 0).toNat*256 ^ a<=255*256 ^ a:=zEk _ oM;omega
def oJ (a d first b c):fG (a::d) first b c=
 if (first&&a.toNat==128)||decide (144115188075855871 < b) then none
 else if a.toNat < 128 then some (b*128+a.toNat % 128,c+1) else fG d false (b*128+a.toNat % 128) (c+1):=by conv=>lhs;rw [fG]
def rE (a):mK a 0= []:=by cases a <;> simp [mK]
def aIP (b):∀a,a < 128 ^ b->mK (b+1) a=mK b a:=by
 induction b with
 | zero=>intro a c;have:a=0:=by simpa using c
         subst this;simp [mK]
 | succ b e=>
  intro a c;by_cases d:a=0
  .subst d;simp [rE]
  .rw [mK,zBw d,e (a / 128) (by rw [zEP oM];rw [zEM] at c;exact c)]
   conv=>rhs;rw [mK,zBw d]
def aCh (a) (b:a≠0) (c:a < 128 ^ 10):mK 10 a=mK 10 (a / 128)++ [UInt8.ofNat (a % 128+128)]:=by
 rw [aIP 9 (a / 128) oM]
 conv=>lhs;rw [mK,zBw b]
def aEJ (a):∀b,(mK a b).length<=a:=by
 induction a with
 | zero=>intro b;simp [mK]
 | succ a c=>
  intro b;unfold mK;split
  .simp
  have:=c (b / 128);simp;omega
def bX (a):(bW a).length<=11:=by
 have:=aEJ 10 (a / 128);simp [bW];omega
def aAD (a):(dZ a).length<=11*a.length:=by
 induction a with
 | nil=>simp [dZ]
 | cons b a c=>
  have:=bX b;simp [dZ] at c⊢;omega
def aEY {b:List Nat} {a:Nat} {c:Nat} (d:b[a]?=some c):dZ (b.take (a+1))=dZ (b.take a)++bW c:=by
 have e:a < b.length:=(zAc.1 d).1;rw [zDo e];have:b[a]=c:=(zAc.1 d).2;rw [this];simp [dZ,zDI]
def aM1 {b c a} (f:c+1<=a) (e:a=0∨1<=b / 2 ^(7*a)):b / 2 ^(7*(c+1))≠0:=by
 have g:1<=b / 2 ^(7*a):=by rcases e with d | d <;> omega
 have i:b / 2 ^(7*a)<=b / 2 ^(7*(c+1)):=Nat.div_le_div_left (zBp oM oM) (Nat.pow_pos oM);omega
def aOd {a} (b) (c:a < 18446744073709551616):a / 2 ^(7*(b+1)) < 128 ^ 9:=by
 have d:a / 2 ^(7*(b+1))<=a / 2 ^ 7:=Nat.div_le_div_left (zBp oM oM) (Nat.pow_pos oM);omega
def aOu (b a):b / 2 ^(7*(a+1))=b / 2 ^(7*a)/ 128:=by
 rw [zFg,show 7*(a+1)=7*a+7 by omega,Nat.pow_add]
def aIA {b a} (e:b < 18446744073709551616) (f:a<=9) (d:128<=b / 2 ^(7*a)):a+1<=9:=by
 by_cases c:a=9;subst c;rw [Nat.le_div_iff_mul_le dC] at d;omega;omega
def tH (a):dZ [a]=bW a:=by simp [dZ]
def aI7 (b):∀a e c,a < 128 ^ b->a < 144115188075855872->fG (mK b a++e) true 0 c=fG e (a==0) a (c+(mK b a).length):=by
 induction b with
 | zero=>intro a e c d _;have:a=0:=by simpa using d
         subst this;simp [mK]
 | succ b k=>
  intro a e c d l;by_cases f:a=0
  .subst f;simp [rE]
  .rw [mK,zBw f,zCo,k (a / 128) _ c (by rw [zEP oM];rw [zEM] at d;exact d) oM];rw [zFp,oJ];have j:(UInt8.ofNat (a % 128+128)).toNat=a % 128+128:=(by simp [zEc];omega);rw [j,zBw,zBw oM]
   .have i:a / 128*128+(a % 128+128)% 128=a:=oM;rw [i,zAi,List.length_singleton,zDp];have:(a==0)=false:=(by simp [f]);rw [this]
   by_cases g:a / 128=0;simp [g];omega;simp [g];omega
def rP {n} (d:n < 18446744073709551616) (c a):fG (bW n++c) true 0 a=some (n,a+(bW n).length):=by
 unfold bW;rw [zCo,aI7 10 (n / 128) _ a oM oM,zFp,oJ];have b:(UInt8.ofNat (n % 128)).toNat=n % 128:=by simp [zEc];omega
 rw [b,zBw,zBx oM,zAi,List.length_singleton];congr 2;omega;simp;omega
def aLJ (a):0 < (bW a).length:=by simp [bW]
def aLy (b d) {a} (c:a < 18446744073709551616):fF (b++(bW a++d)) (b.length:Int)=(a,((b.length+(bW a).length:Nat):Int),0):=by
 rw [fF,zBw zt];simp only [zBr,zFV];rw [rP c]
def dM (a:List (Int×Nat)) (b:Int):List (Int×Nat):=
 match a.getLast? with
 | some (c,d)=>if c=b then a.dropLast++ [(c,d+1)] else a++ [(b,1)]
 | none=> [(b,1)]
def bI (a:List Int):List (Int×Nat):=a.foldl dM []
def xP {b:List Int} {a:Nat} {d:Int} (c:b[a]?=some d):bI (b.take (a+1))=dM (bI (b.take a)) d:=by
 have e:a < b.length:=(zAc.1 c).1;rw [zDo e,(zAc.1 c).2];simp [bI,zFt]
def gL (c:List (Int×Nat)) (a b):dM (c++ [(a,b)]) a=c++ [(a,b+1)]:=by simp [dM]
def fT (d:List (Int×Nat)) {b a} (c) (e:b≠a):dM (d++ [(b,c)]) a=d++ [(b,c)]++ [(a,1)]:=by simp [dM,e]
def xQ (a):dM [] a= [(a,1)]:=by simp [dM]
def aEr (a:List (Int×Nat)) (b):(dM a b).length<=a.length+1/\a.length<=(dM a b).length:=by
 rcases zDL a with rfl |⟨f,⟨d,e⟩,rfl⟩
 .simp [dM]
 .rw [zDW];by_cases c:d=b
  .subst c;rw [gL];simp
  .rw [fT _ _ c];simp
def jG (a):(bI a).length<=a.length:=by
 have e:∀(a:List Int) (b:List (Int×Nat)),(a.foldl dM b).length<=b.length+a.length:=by
  intro a
  induction a with
  | nil=>intro b;simp
  | cons c a d=>intro b;have:=d (dM b c);have f:=(aEr b c).1;simp only [zCq,zCg];omega
 have:=e a [];simpa [bI] using this
def eV (b:List (Int×Nat)):List Int:=b.flatMap λa=>List.replicate a.2 a.1
def aEW (a:List (Int×Nat)) (b):eV (dM a b)=eV a++ [b]:=by
 rcases zDL a with rfl |⟨f,⟨d,e⟩,rfl⟩
 .simp [dM,eV]
 .rw [zDW];by_cases c:d=b
  .subst c;rw [gL];simp [eV,zDI,List.replicate_succ']
  .rw [fT _ _ c];simp [eV,zDI]
def kA (a):eV (bI a)=a:=by
 have d:∀(a:List Int) (b:List (Int×Nat)),eV (a.foldl dM b)=eV b++a:=by
  intro a
  induction a with
  | nil=>intro b;simp
  | cons e a c=>intro b;rw [zCq,c,aEW];simp
 have:=d a [];simpa [bI,eV] using this
def xG (a:List (Int×Nat)):Prop:=(∀e∈a,1<=e.2)/\a.Pairwise (λ_ _=>True)/\∀d b c,a[d]?=some b->a[d+1]?=some c->b.1≠c.1
def aGn {k:List (Int×Nat)} (l) (s:xG k):xG (dM k l):=by
 obtain ⟨r,_,n⟩:=s;refine ⟨?_,List.pairwise_of_forall (by intros;trivial),?_⟩
 .rcases zDL k with rfl |⟨g,⟨f,j⟩,rfl⟩
  .simp [dM]
  .rw [zDW] at*
   by_cases e:f=l
   .subst e;rw [gL];intro p c;rcases zCp.1 c with c | c;exact r p (zDE _ c)
    .have:=zDa.1 c;subst this;simp
   .rw [fT _ _ e];intro p c;rcases zCp.1 c with c | c;exact r p c
    .have:=zDa.1 c;subst this;simp
 .intro d m q b a;rcases zDL k with rfl |⟨g,⟨f,j⟩,rfl⟩
  .simp [dM] at a
  .rw [zDW] at*
   by_cases e:f=l
   .subst e;rw [gL] at b a;have o:d+1 < (g++ [(f,j+1)]).length:=(zAc.1 a).1;simp at o;by_cases i:d+1=g.length;rw [zAo oM,i] at a;simp at a;rw [zAn oM] at b;have:=n d m (f,j) (by rw [zAn oM];exact b) (by rw [zAo oM,i];simp);rw [<-a];exact this
    .rw [zAn oM] at b a;exact n d m q (by rw [zAn oM];exact b) (by rw [zAn oM];exact a)
   rw [fT _ _ e] at b a;have o:d+1 < (g++ [(f,j)]++ [(l,1)]).length:=(zAc.1 a).1;simp at o;by_cases i:d=g.length;subst i;rw [zAn zs] at b;simp at b;rw [zAo zs] at a;simp at a;rw [<-b,<-a];exact e;rw [zAn zt] at b a;exact n d m q b a
def wI (a):xG (bI a):=by
 have e:∀(a:List Int) (b:List (Int×Nat)),xG b->xG (a.foldl dM b):=by
  intro a
  induction a with
  | nil=>intro b c;exact c
  | cons f a d=>intro b c;exact d _ (aGn f c)
 exact e a [] ⟨by simp,List.Pairwise.nil,by simp⟩
def aGV (a:List (Int×Nat)) (d:Int×Nat) (b:d∈a):d.2<=(eV a).length:=by
 induction a with
 | nil=>cases b
 | cons c a f=>
  have e:eV (c::a)=List.replicate c.2 c.1++eV a:=(by simp [eV]);rw [e,zAi,zCn];rcases zDf.1 b with rfl | b;omega;have:=f b;omega
def lF {l} {x:Int×Nat} (a:x∈bI l):x.2<=l.length:=by
 have:=aGV _ x a;rwa [kA] at this
def fJ (a:Int):Prop:=0<=a/\a < 257
instance (s:Int):Decidable (fJ s):=inferInstanceAs (Decidable (_/\_))
def cB (a:Int×Nat):List UInt8:=bW a.1.toNat++bW a.2
def eO (a:List (Int×Nat)):List UInt8:=bW a.length++a.flatMap cB
def lY (a:List Int):Option (List UInt8):=if ∀b∈bI a,fJ b.1 then some (eO (bI a)) else none
def xR (a:Int×Nat):(cB a).length<=22:=by
 have:=bX a.1.toNat;have:=bX a.2;simp [cB];omega
def sF {r:List (Int×Nat)} {k} {b:Int×Nat} (a:r[k]?=some b):(r.take (k+1)).flatMap cB=(r.take k).flatMap cB++cB b:=by
 have c:k < r.length:=(zAc.1 a).1;rw [zDo c,(zAc.1 a).2];simp [zDI]
def qC (a:List (Int×Nat)):(a.flatMap cB).length<=22*a.length:=by
 induction a with
 | nil=>simp
 | cons b a c=>
  have:=xR b;rw [zFT,zAi,zCg];omega
def sH (b:List UInt8) (a:Nat):Option (Nat×Nat×Nat):=
 match fG (b.drop a) true 0 a with
 | none=>none
 | some (f,c)=>
  match fG (b.drop c) true 0 c with
  | none=>none
  | some (e,d)=>some (f,e,d)
def rgo (c:List UInt8) (e:Nat):Nat->Nat->Nat->List Int->List Int×Int
 | 0,a,_,acc=>if a=c.length then (acc,0) else ([],4)
 | n+1,a,last,acc=>
  match sH c a with
  | none=>([],4)
  | some (b,d,f)=>if 257<=b∨b=last∨d=0 then ([],4) else if e - acc.length < d then ([],3) else rgo c e n f b (acc++List.replicate d (b:Int))
def oI (a:List UInt8) (aA:Int):List Int×Int:=
 match fG a true 0 0 with
 | none=>([],4)
 | some (c,b)=>rgo a aA.toNat c b 257 []
def aAy (f):∀first b d e c,fG f first b d=some (e,c)->d < c/\c<=d+f.length/\e < 18446744073709551616:=by
 induction f with
 | nil=>intro first b d e c a;rw [fG] at a;cases a
 | cons j l i=>
  intro first b d e c a
  rw [oJ] at a;split at a
  .cases a
  .rename_i g
   split at a
   .injection a with a;injection a with h1 h2;subst h1;subst h2;have k:b<=144115188075855871:=(by rcases zBe 144115188075855871 b with a | a;exact absurd (by simp [a]) g;exact a);refine ⟨by omega,by simp,by omega⟩
   have:=i _ _ _ _ _ a;simp only [zCg];omega
def tF {b a} (d c) (f:a<=b.length) (e:fG (b.drop a) true 0 a=some (d,c)):fF b (a:Int)=(d,(c:Int),0):=by
 rw [fF,zBw oM];simp only [zBr,e]
def tG {b a} (d:a<=b.length) (c:fG (b.drop a) true 0 a=none):fF b (a:Int)=(0,(a:Int),4):=by
 rw [fF,zBw oM];simp only [zBr,c]
def aEB {b} (f g) {a} (e c) (d:sH b a=none):rgo b f (g+1) a e c=([],4):=by simp only [rgo,d]
def aEA {d} (e j) {f} (i c) {a b g} (k:sH d f=some (a,b,g)):
 rgo d e (j+1) f i c=if 257<=a∨a=i∨b=0 then ([],4) else if e - c.length < b then ([],3) else rgo d e j g a (c++List.replicate b (a:Int)):=by simp only [rgo,k]
def aEt {b a} (c:fG (b.drop a) true 0 a=none):sH b a=none:=by simp only [sH,c]
def aEs {b a f c} (d:fG (b.drop a) true 0 a=some (f,c)) (e:fG (b.drop c) true 0 c=none):sH b a=none:=by simp only [sH,d,e]
def aAa {b a f c e d} (g:fG (b.drop a) true 0 a=some (f,c)) (i:fG (b.drop c) true 0 c=some (e,d)):sH b a=some (f,e,d):=by simp only [sH,g,i]
def lM (a):(nD a).length=4:=by simp [nD,aBC]
def aLD (a e b) (g:b < a):(aBC a e)[b]?=some (UInt8.ofNat (e / 256 ^ b % 256)):=by
 induction a with
 | zero=>omega
 | succ a d=>
  have c:∀a,(aBC a e).length=a:=λa=>by induction a with
   | zero=>rfl
   | succ a d=>simp [aBC,d]
  rw [aBC];by_cases f:b=a
  .subst f;rw [zAo (by rw [c];omega),c];simp
  .rw [zAn (by rw [c];omega),d oM]
def aMW (b e) {n} (i:n < 4294967296):ofB (b++(nD n++e)) (b.length:Int)=(n,0):=by
 have j:=lM n;rw [ofB,zBw zt,zBw zt];have c:∀a,a < 4->(b++(nD n++e))[b.length+a]?=some (UInt8.ofNat (n / 256 ^ a % 256)):=λa g=>by rw [zAo oM,zDP,zAn oM];exact aLD 4 n a g
 simp only [ofN,zBr];rw [c 0 oM,c 1 oM,c 2 oM,c 3 oM];have f:∀d:Nat,(UInt8.ofNat (d % 256)).toNat=d % 256:=λd=>by simp [zEc]
 simp only [zFd,f];congr 1;simp only [Nat.reducePow,Nat.div_one,zBl];omega
def cX (a:Nat):Nat:=if a % 2=1 then (a / 2)^^^ 3988292384 else a / 2
def eB:Nat->Nat->Nat
 | 0,s=>s
 | k+1,s=>cX (eB k s)
def kJ (a:Nat):Nat:=eB 8 a
def mE:List UInt8->Nat->Nat
 | [],a=>a
 | c::r,a=>mE r (kJ ((a % 256)^^^ c.toNat)^^^(a / 256))
def aDi (b:Nat) (a:List UInt8):Nat:=4294967295 - mE a (4294967295 - b)
def lP (a:List UInt8):Nat:=aDi 0 a
def aG2 {a} (b:a < 4294967296):cX a < 4294967296:=by
 unfold cX;split;exact zEg (n:=32) oM oM;omega
def uZ {c:Nat} (b:c < 4294967296):∀a,eB a c < 4294967296
 | 0=>b
 | a+1=>aG2 (uZ b a)
def aCq {a} (b:a < 256):kJ a < 4294967296:=uZ oM 8
def aLQ {b:Nat} (c:b < 4294967296) (a:UInt8):(b % 256)^^^ a.toNat < 256:=zEg (n:=8) oM a.toNat_lt
def aLP {a:Nat} (c:a < 4294967296) (b:UInt8):kJ ((a % 256)^^^ b.toNat)^^^(a / 256) < 4294967296:=
 zEg (n:=32) (aCq (aLQ c b)) oM
def qH:∀(d:List UInt8) (b:Nat),b < 4294967296->mE d b < 4294967296
 | [],_,a=>a
 | c::r,b,a=>qH r _ (aLP a c)
def tK:∀(c:List UInt8) (a:UInt8) (b:Nat),mE (c++ [a]) b=kJ ((mE c b % 256)^^^ a.toNat)^^^(mE c b / 256)
 | [],_,_=>rfl
 | d::r,a,b=>tK r a _
def vA (a):lP a < 4294967296:=by
 unfold lP aDi;have:=qH a (4294967295 - 0) oM;omega
def eE (a:List UInt8):List UInt8:=bW a.length++(a++nD (lP a))
def gA:List UInt8:= [83,75,82,49]
def yO (d:List Nat) (a b:Nat):List UInt8:=(List.range (b / a+1)).flatMap λc=>bW (d.idxOf (c*a))
def jC (a:List Nat):List Int:=a.map λb:Nat=>(b:Int)
def gS (a:List Nat):List UInt8:=eO (bI (jC a))
def qI (c d:List Nat) (aA b a:Nat):List UInt8:=gA++(dZ [aA,b,a]++(eE (gS c)++eE (yO d b a)))
def fC (a d:List Nat) (aA c b:Nat):List UInt8:=qI a d aA c b++nD (lP (qI a d aA c b))
def aAk {d a r b c e} (f:d=a++(bW b++r)) (g:a.length=c) (ht:c+(bW b).length=e) (i:b < 18446744073709551616):fF d (c:Int)=(b,(e:Int),0):=by
 rw [f,<-ht,<-g];exact aLy a r i
structure SnAt (body:List UInt8) (aA rate N:Nat) (f s:List UInt8) (p1 p2 p3 p4 p5:Nat):Prop where
 e1:body=gA++(bW aA++(bW rate++(bW N++(eE f++eE s))))
 h1:4+(bW aA).length=p1
 h2:p1+(bW rate).length=p2
 h3:p2+(bW N).length=p3
 h4:p3+(eE f).length=p4
 h5:p4+(eE s).length=p5
def aAH (c d aA b a):qI c d aA b a=gA++(bW aA++(bW b++(bW a++(eE (gS c)++eE (yO d b a))))):=by
 unfold qI;simp [dZ]
def SnAt.of (c d aA b a):∃f g i j e,SnAt (qI c d aA b a) aA b a (gS c) (yO d b a) f g i j e/\(qI c d aA b a).length=e:=by
 refine ⟨_,_,_,_,_,⟨aAH c d aA b a,rfl,rfl,rfl,rfl,rfl⟩,?_⟩;rw [aAH];simp [gA];omega
def SnAt.n1 {b f n aA m e d i j k l} (c:SnAt b aA m e f n d i j k l) (g:aA < 18446744073709551616):fF b 4=(aA,(d:Int),0):=
 aAk (a:=gA) c.e1 rfl c.h1 g
def SnAt.n2 {e f j aA c d g i l m n} (b:SnAt e aA c d f j g i l m n) (k:c < 18446744073709551616):fF e (g:Int)=(c,(i:Int),0):=
 aAk (a:=gA++bW aA) (r:=bW d++(eE f++eE j)) (by rw [b.e1];simp) (by rw [zAi];have:=b.h1;have:gA.length=4:=rfl;omega) b.h2 k
def SnAt.n3 {d e j aA i c l f g m n} (b:SnAt d aA i c e j l f g m n) (k:c < 18446744073709551616):fF d (f:Int)=(c,(g:Int),0):=
 aAk (a:=gA++(bW aA++bW i)) (r:=eE e++eE j) (by rw [b.e1];simp) (by rw [zAi,zAi];have:=b.h1;have:=b.h2;have:gA.length=4:=rfl;omega) b.h3 k
def kW (a):(eE a).length=(bW a.length).length+(a.length+4):=by
 unfold eE;rw [zAi,zAi,lM]
def SnAt.f1 {c b l aA i e o p d f q} (a:SnAt c aA i e b l o p d f q) (n:b.length < 18446744073709551616):
 ∃g:Nat,fF c (d:Int)=(b.length,(g:Int),0)/\g+(b.length+4)=f/\(c.drop g).take b.length=b/\f<=c.length:=by
 have j:c=(gA++(bW aA++(bW i++bW e)))++(bW b.length++((b++nD (lP b))++eE l)):=by rw [a.e1];simp [eE]
 have k:(gA++(bW aA++(bW i++bW e))).length=d:=by simp only [zAi];have:=a.h1;have:=a.h2;have:=a.h3;have:gA.length=4:=rfl;omega
 refine ⟨d+(bW b.length).length,aAk j k rfl n,?_,?_,?_⟩;have:=a.h4;rw [kW] at this;omega
 .rw [j,<-zCo,List.drop_left' (by rw [zAi,k]),zCo,List.take_left' rfl]
 have v:=a.h5;have m:=congrArg List.length a.e1;simp only [zAi] at m;have r:=a.h1;have s:=a.h2;have t:=a.h3;have u:=a.h4;have w:gA.length=4:=rfl;omega
def SnAt.f2 {c f b aA j e o p q d g} (a:SnAt c aA j e f b o p q d g) (n:b.length < 18446744073709551616):
 ∃i:Nat,fF c (d:Int)=(b.length,(i:Int),0)/\i+(b.length+4)=g/\(c.drop i).take b.length=b/\g=c.length:=by
 have k:c=(gA++(bW aA++(bW j++(bW e++eE f))))++(bW b.length++((b++nD (lP b))++ [])):=by rw [a.e1];simp [eE]
 have l:(gA++(bW aA++(bW j++(bW e++eE f)))).length=d:=by simp only [zAi];have:=a.h1;have:=a.h2;have:=a.h3;have:=a.h4;have:gA.length=4:=rfl;omega
 refine ⟨d+(bW b.length).length,aAk k l rfl n,?_,?_,?_⟩;have:=a.h5;rw [kW] at this;omega
 .rw [k,<-zCo,List.drop_left' (by rw [zAi,l]),zCo,List.take_left' rfl]
 have v:=a.h5;have m:=congrArg List.length a.e1;simp only [zAi] at m;have r:=a.h1;have s:=a.h2;have t:=a.h3;have u:=a.h4;have w:gA.length=4:=rfl;omega
def vU {gb l k w} (a:Bk w gb 240 (dL l)) (e:k < l.length):
 Calls prog 228 #[gb,(k:Int)] w λb c=>b=.returned (.int .i64 0)/\Below w.heap.size w c:=by
 have d:w.cell? gb=some (.int .i64 l.length):=(a.cell 0).trans rfl;have i:=a.lt;have f:¬(k:Int) < 0:=oM;have g:decide ((k:Int)>=l.length)=false:=zt
 clear a;go_enter func228,ntmps228;go_wp2_with fail;go_ret;exact ⟨rfl,kg _ _⟩
def aO8 (b a):(if a < 64 then w0 b >>> a else w1 b >>>(a - 64))&&& 1=if b.getD a false then 1 else 0:=by
 by_cases d:a < 64
 .rw [zBx d];have:=lN (b.take 64) a;rw [zEN,zDu,<-Nat.toNat_testBit,show (w0 b).testBit a=(b.take 64).getD a false from this];have c:(b.take 64).getD a false=b.getD a false:=(by simp [zAb,zBs,d]);rw [c];cases b.getD a false <;> rfl
 .rw [zBw d];have:=lN (b.drop 64) (a - 64);rw [zEN,zDu,<-Nat.toNat_testBit,show (w1 b).testBit (a - 64)=(b.drop 64).getD (a - 64) false from this];have c:(b.drop 64).getD (a - 64) false=b.getD a false:=(by simp [zAb,zBt,show 64+(a - 64)=a by omega]);rw [c];cases b.getD a false <;> rfl
def aIc {b a:Nat} {c} (i:b < 18446744073709551616) (g:b >>> a&&& 1=if c then 1 else 0):(bits .and .u64 ((b:Int)/ 2 ^ a) 1==1)=c:=by
 have d:=aCN b a 1 (2 ^ a) i oM rfl;have e:((2 ^ a:Nat):Int)=2^ a:=by push_cast;rfl
 rw [e] at d;have f:bits .and .u64 ((b:Int)/ 2 ^ a) 1=((b >>> a&&& 1:Nat):Int):=d;rw [f,g];cases c <;> rfl
def vV {f b} (a) {g} (c:Bk g f 240 (dL b)) (v:b.length<=128) (t:a < b.length):
 Calls prog 203 #[f,(a:Int)] g λj w=>j=.returned (.tuple #[.bool (b.getD a false),o0])/\Below g.heap.size g w:=by
 have e:=aO8 b a;obtain ⟨x,l⟩:=eqx (b.getD a false);rw [l] at e⊢;clear l;have n:=pG b;have b1:=pA v;have z:=c.lt;go_enter func203,ntmps203;go_wp2_with fail;refine (vU c t).mono ?_;rintro j m ⟨rfl,i⟩;have d:=c.below i c.lt;have o:m.cell? ⟨f,1,none⟩=some (.int .u64 (w0 b:Nat)):=(d.cell 1).trans rfl;have p:m.cell? ⟨f,2,none⟩=some (.int .u64 (w1 b:Nat)):=(d.cell 2).trans rfl;have A:=d.lt;by_cases k:a < 64
 .rw [zBx k] at e;have q:(a:Int).tdiv 64=0:=(by rw [zEG oM];omega);have r:(a:Int).tmod 64=a:=(by rw [zDA oM];omega);have s:IntKind.u64.wrap a=(a:Int):=zv;generalize w0 b=u at*
  clear d p c;go_wp2_with fail;go_ret2;exact ⟨by rw [aIc n e];rfl,i⟩
 .rw [zBw k] at e;have q:(a:Int).tdiv 64=1:=(by rw [zEG oM];omega);have r:(a:Int).tmod 64=(a - 64:Nat):=(by rw [zDA oM];omega);have s:IntKind.u64.wrap (a - 64:Nat)=((a - 64:Nat):Int):=zv;have y:a - 64 < 64:=oM;generalize w1 b=u at*
  generalize a - 64=k2 at*
  clear d o c;go_wp2_with fail;go_ret2;exact ⟨by rw [aIc b1 e];rfl,i⟩
def mY (c) {b a} (f:b<=a):bQ c b<=bQ c a:=by
 induction a with
 | zero=>obtain rfl:b=0:=oM
         exact zAs _
 | succ a e=>
  rw [dW];by_cases d:b<=a;have:=e d;omega;obtain rfl:b=a+1:=oM;rw [dW];exact zAs _
def aHO (b:Nat) {e:Nat}:∀ {a:Nat},e < bQ b a->∃c,c < a/\b.testBit c=true/\bQ b c=e
 | 0,h=>by rw [rI] at h;omega
 | a+1,h=>by
  by_cases f:e < bQ b a;obtain ⟨c,j,g,i⟩:=aHO b f;exact ⟨c,by omega,g,i⟩
  .rw [dW] at h;cases d:b.testBit a with
   | false=>rw [d] at h;simp at h;omega
   | true=>
    rw [d] at h;simp at h;exact ⟨a,by omega,d,by omega⟩
def aK0 {c a b} (e:c.testBit a=true) (f:c.testBit b=true) (g:bQ c a=bQ c b):a=b:=by
 rcases zDD a b with d | d | d;have:=mY c (show a+1<=b from d);rw [dW,e] at this;simp at this;omega;exact d;have:=mY c (show b+1<=a from d);rw [dW,f] at this;simp at this;omega
def aHY {a} (e:0 < a) (d:a < 2 ^ 64):∃b,a=2 ^ Lib.ctz 64 a*(2*b+1)/\Lib.ctz 64 a < 64:=by
 obtain ⟨b,f,g⟩:=Lib.ctzFrom_spec 64 a e d;have c:Lib.ctz 64 a=Lib.ctzFrom 64 a:=by unfold Lib.ctz;rw [zBw oM]
 exact ⟨b,by rw [c];exact f,by rw [c];exact g⟩
def aC9 (a c b):(2 ^ a*(2*c+1)).testBit b=if b < a then false else if b=a then true else c.testBit (b - a - 1):=by
 rw [zFY,Nat.testBit_mul_two_pow];by_cases f:b < a;rw [zBx f,zBy oM];rfl
 .rw [zBw f,zBz oM,zDO];by_cases d:b=a
  .rw [zBx d];subst d;rw [zDK];simp [zEH]
  .rw [zBw d];obtain ⟨e,g⟩:∃e,b - a=e+1:=⟨b - a - 1,by omega⟩;rw [g,zEt];have:(2*c+1)/ 2=c:=oM;rw [this];congr 1
def aKR (a c b):(2 ^ a*(2*c+1) - 1).testBit b=if b < a then true else if b=a then false else c.testBit (b - a - 1):=by
 have j:0 < 2 ^ a:=zFn a;have g:2 ^ a*(2*c+1) - 1=2 ^ a*(2*c)+(2 ^ a - 1):=by rw [Nat.mul_add,zBl];omega
 rw [g,zDY _ oM];by_cases d:b < a
 .rw [zBx d,zBx d,Nat.testBit_two_pow_sub_one,zBz d]
 .rw [zBw d,zBw d];by_cases e:b=a
  .rw [zBx e];subst e;rw [zDK];simp [zEH]
  .rw [zBw e];obtain ⟨f,i⟩:∃f,b - a=f+1:=⟨b - a - 1,by omega⟩;rw [i,zEt];have:2*c / 2=c:=oM;rw [this];congr 1
def aJl {a} (g:0 < a) (f:a < 2 ^ 64) (b):(a&&&(a - 1)).testBit b=(a.testBit b&&decide (b≠Lib.ctz 64 a)):=by
 obtain ⟨j,e,i⟩:=aHY g f;generalize Lib.ctz 64 a=k at e i;subst e;rw [zEW,aC9,aKR];by_cases c:b < k
 .simp [c]
 .by_cases d:b=k
  .simp [d]
  .simp [c,d]
def aIa {a} (e:0 < a) (d:a < 2 ^ 64):a.testBit (Lib.ctz 64 a)=true/\∀b,b < Lib.ctz 64 a->a.testBit b=false:=by
 obtain ⟨i,c,f⟩:=aHY e d;generalize Lib.ctz 64 a=k at c f⊢;subst c;refine ⟨?_,λb g=>?_⟩
 .rw [aC9,zBw oM,zBx rfl]
 .rw [aC9,zBx g]
def clr (a:Nat):Nat->Nat
 | 0=>a
 | i+1=>clr a i&&&(clr a i - 1)
def aG7 (b a):clr b a<=b:=by
 induction a with
 | zero=>exact zAs _
 | succ a c=>exact zAk Nat.and_le_left c
def aDm {a:Nat} (o:a < 2 ^ 64) {i:Nat} (m:a.testBit i=true):∀b,b<=bQ a i->∀c,(clr a b).testBit c=(a.testBit c&&decide (b<=bQ a c))
 | 0,_,c=>by simp [clr]
 | b+1,hi,c=>by
  have e:=aDm o m b oM;have n:(clr a b).testBit i=true:=(by rw [e,m,zBz oM];rfl);have j:0 < clr a b:=by
   rcases zBa (clr a b) with f | f
   .rw [f] at n;simp at n
   exact f
  have l:clr a b < 2 ^ 64:=zDF (aG7 a b) o;obtain ⟨d,p⟩:=aIa j l;show (clr a b&&&(clr a b - 1)).testBit c=_;rw [aJl j l];generalize Lib.ctz 64 (clr a b)=k at d p;rw [e,zBd,zCa] at d;obtain ⟨d,y⟩:=d;have x:bQ a k=b:=by
   by_cases g:b < bQ a k
   .obtain ⟨v,q,r,s⟩:=aHO a g;have:=p v q;rw [e,r,s] at this;simp at this
   omega
  rw [e];cases u:a.testBit c with
  | false=>rfl
  | true=>
   rw [zDO,zDO,zEd,zBd,zCa,zCa,zCa];constructor;rintro ⟨g,t⟩;by_cases w:bQ a c=b;exact absurd (aK0 u d oM) t;omega;intro g;refine ⟨by omega,?_⟩;rintro rfl;omega
def aIb {x} (e:x < 2 ^ 64) {b i} (d:x.testBit b=true) (c:i<=bQ x b):0 < clr x i:=by
 have:=aDm e d i c b;rw [d,zBz c] at this;rcases zBa (clr x i) with a | a
 .rw [a] at this;simp at this
 exact a
def aNo {x} (e:x < 2 ^ 64) {b a} (d:x.testBit b=true) (m:bQ x b=a):Lib.ctz 64 (clr x a)=b:=by
 have j:=aIb e d (i:=a) oM;have k:clr x a < 2 ^ 64:=zDF (aG7 x a) e;obtain ⟨g,l⟩:=aIa j k;have f:=aDm e d a oM;rcases zDD (Lib.ctz 64 (clr x a)) b with c | c | c;rw [f,zBd,zCa] at g;have:=mY x (show Lib.ctz 64 (clr x a)+1<=b from c);rw [dW,g.1] at this;simp at this;omega;exact c
 .have:=l b c;rw [f,d,zBz oM] at this;simp at this
def gC (a:Nat) (b:Bool):Nat:=if b then a else 18446744073709551615 - a
def aEd {a} (b) (c:a < 18446744073709551616):gC a b < 18446744073709551616:=by
 unfold gC;split <;> omega
def mQ {a} (c) (f:a < 18446744073709551616) {b} (e:b < 64):(gC a c).testBit b=(a.testBit b==c):=by
 unfold gC;cases c with
 | true=>simp
 | false=>
  have d:18446744073709551615 - a=2 ^ 64 -(a+1):=oM;simp only [zEK,if_false];rw [d,zFm oM,zBz e];cases a.testBit b <;> rfl
def oB (e:Nat) (b:List Bool) (d:Bool):∀a,a<=b.length->(∀c,c < a->∀f,b[c]?=some f->e.testBit c=(f==d))->bQ e a=(b.take a).count d
 | 0,_,_=>by simp [rI]
 | a+1,hn,h=>by have g:b[a]?=some (b[a]' oM):=zAa oM;rw [dW,oB e b d a oM (λc i=>h c oM),zAv,g,zCc,h a oM _ g];simp [zDg]
def aF2 {c a} (e:a < 64) {b} (d:c[a]?=some b):(w0 c).testBit a=b:=by
 unfold w0;rw [lN,zAb,zBs,zBx e,d];rfl
def aJZ (b) {q a} (c:b[64+q]?=some a):(w1 b).testBit q=a:=by
 unfold w1;rw [lN,zAb,zBt,c];rfl
def aN0 {a b c d} (n:a.length<=128) (j:a[c]?=some b) (l:(a.take c).count b=d) (e:c < 64):
 (gC (w0 a) b).testBit c=true/\bQ (gC (w0 a) b) c=d/\d < bQ (gC (w0 a) b) 64:=by
 have i:=pG a;have o:=(zAc.1 j).1;have f:(gC (w0 a) b).testBit c=true:=by rw [mQ _ i e,aF2 e j];simp
 have g:bQ (gC (w0 a) b) c=d:=by rw [<-l];exact oB _ a b c oM λq p m k=>by rw [mQ _ i oM,aF2 oM k]
 refine ⟨f,g,?_⟩;have:=mY (gC (w0 a) b) (show c+1<=64 by omega);rw [dW,f,g] at this;simp at this;omega
def aN1 {a b c f} (r:a.length<=128) (m:a[c]?=some b) (u:(a.take c).count b=f) (t:64<=c):
 ∃i g,bQ (gC (w0 a) b) 64=i/\i<=f/\f - i=g/\(gC (w1 a) b).testBit (c - 64)=true/\bQ (gC (w1 a) b) (c - 64)=g/\g < bQ (gC (w1 a) b) 64:=by
 have s:=pG a;have l:=pA r;have v:=(zAc.1 m).1;have p:bQ (gC (w0 a) b) 64=(a.take 64).count b:=oB _ a b 64 oM λn e o d=>by rw [mQ _ s e,aF2 e d]
 have w:(a.take c).count b=(a.take 64).count b+((a.drop 64).take (c - 64)).count b:=by
  have:a.take c=a.take 64++(a.drop 64).take (c - 64):=by rw [<-List.take_add];congr 1;omega
  rw [this,zCc]
 have j:(gC (w1 a) b).testBit (c - 64)=true:=by rw [mQ _ l oM,aJZ a (q:=c - 64) (by rw [show 64+(c - 64)=c by omega];exact m)];simp
 have k:bQ (gC (w1 a) b) (c - 64)=((a.drop 64).take (c - 64)).count b:=
  oB _ (a.drop 64) b (c - 64) (by rw [zAw];omega) λn e o d=>by rw [zBt] at d;rw [mQ _ l oM,aJZ a d]
 refine ⟨_,_,p,by omega,rfl,j,by rw [k];omega,?_⟩;have:=mY (gC (w1 a) b) (show c - 64+1<=64 by omega);rw [dW,j,k] at this;simp at this;omega
def cQ {P:Program} {ops:Array Oper} {Q:Exit->Act->World->Prop} {md:Region.Mode} (e:Nat) (q:List Nat) (i:Nat->Prop) (c:Nat) (s:List Nat) {pre:World->Prop} (p:Value->World->Prop) (o:List (Value->World->Prop)) (l:Act) {j:World} (E:(ops.toList.take e).filterMap (·.dst)=q) (H:e<=ops.size) (G:kL md ops l.tmps.size=true) (N:((List.range ops.size).all λd=>decide (d < e)||(List.range e).all λa=>upB md ops ops.size d a)=true) (K:(s.all λa=>a==c||upB md ops ops.size c a)=true) (J:pre j) (I:∀b g,pre b->Keep i j b->Grow b g->pre g) (D:Stb p) (L:∀R∈o,tO i R) (M:∀k y,k < e->ops[k]?=some y->dN P ops Q md (Keep i j) (yM i c) (λa b=>s.contains a=true->pre b) (VsJ c p o) l k y) (F:∀(u:Operand->Value) b f,Keep i j b->(∀a t,a < e->((ops[a]?).bind (·.dst))=some t->VsJ c p o a (u (.tmp t)) b)->wpAny P md ops Q (ops.size - e+f) (bT e ops.size) (dJ u q l) b):
 wpAny P md ops Q ops.size (Array.replicate ops.size false) l j:=by
 refine iG e q (Keep i j) (yM i c) (λa b=>s.contains a=true->pre b) (VsJ c p o) l j E H G N (ke _ _) (λ_ _=>J) (λk b g _ B d=>B.trans (kZ d)) (λa k b g _ r O m C d w=>?_) (λa k z b g _ r _ n _ d=>?_) M F;by_cases x:k=c;exfalso;subst x;have v:=zBf.1 K a (by simpa using w);simp only [O,zGn,zCr] at v;exact r v;exact I b g (m w) C (d.2 x);unfold VsJ at n⊢;by_cases m:a=c;rw [zBx m] at n⊢;exact D z b g n (d.2 λA=>r (m.trans A.symm));rw [zBw m] at n⊢;exact zU L a z b g n (kZ d)
def bB {e} {c:Nat->Oper->Prop} {d:List Oper} (f:∀a b,(d.take e)[a]?=some b->c (0+a) b):∀a b,a < e->d.toArray[a]?=some b->c a b:=by
 intro a b g i;have:=f a b (by rw [zBs,zBx g];simpa using i);rwa [zBi] at this
def aIf (e:World->World->Prop) (a b:Nat) (c d:World):Prop:=(b=a->e c d)/\(b≠a->Grow c d)
def aJ {e:World->World->Prop} {a b c d} (g:Grow c d) (i:(b==a)=false):aIf e a b c d:=⟨λf=>by simp [f] at i,λ_=>g⟩
def uG {b:World->World->Prop} {a c d} (f:b c d):aIf b a a c d:=⟨λ_=>f,λe=>absurd rfl e⟩
def Pin (a:Value->World->Prop):Prop:=∀b c d,a b c->a b d
def aN8 (a):Pin (is a):=λ_ _ _ b=>b
def aMO:Pin cO:=λ_ _ _ _=>trivial
def qX {P:Program} {ops:Array Oper} {Q:Exit->Act->World->Prop} {md:Region.Mode} (i:Nat) (q:List Nat) {C:World->Prop} (p:World->World->Prop) (d:Nat) {pre:World->Prop} (o:Value->World->Prop) (m:List (Value->World->Prop)) (k:Act) {n:World} (G:(ops.toList.take i).filterMap (·.dst)=q) (J:i<=ops.size) (I:kL md ops k.tmps.size=true) (O:((List.range ops.size).all λg=>decide (g < i)||(List.range i).all λc=>upB md ops ops.size g c)=true) (E:C n) (L:pre n) (x:∀a b,C a->Grow a b∨p a b->C b) (K:∀a b,pre a->Grow a b->pre b) (F:Stb o) (M:∀t∈m,Pin t) (N:∀j B,j < i->ops[j]?=some B->dN P ops Q md C (aIf p d) (λc a=>c=d->pre a) (VsJ d o m) k j B) (H:∀(v:Operand->Value) a f,C a->(∀c u,c < i->((ops[c]?).bind (·.dst))=some u->VsJ d o m c (v (.tmp u)) a)->wpAny P md ops Q (ops.size - i+f) (bT i ops.size) (dJ v q k) a):
 wpAny P md ops Q ops.size (Array.replicate ops.size false) k n:=by
 refine iG i q C (aIf p d) (λc a=>c=d->pre a) (VsJ d o m) k n G J I O E (λ_ _=>L) (λj a b _ w g=>?_) (λc j a b _ s _ l _ g y=>?_) (λc j D a b _ s _ e _ g=>?_) N H;by_cases z:j=d;exact x a b w (.inr (g.1 z));exact x a b w (.inl (g.2 z));exact K a b (l y) (g.2 λr=>s (y.trans r.symm))
 .unfold VsJ at e⊢;by_cases l:c=d;rw [zBx l] at e⊢;exact F D a b e (g.2 λr=>s (l.trans r.symm))
  .rw [zBw l] at e⊢;unfold Vs at e⊢;rw [zAb] at e⊢;cases A:m[c]? with
   | none=>simp
   | some t=>
    rw [A] at e;simp only [zFd] at e⊢;exact M t (zAd A) D a b e
def qF (b:List Bool) (c a:Nat):Array Value:=((b.take a).map Value.bool++List.replicate (c - a) (Value.bool false)).toArray
def aGR (b a):qF b a 0=Array.replicate a (Value.bool false):=by
 unfold qF;apply zFs;simp
def aJc {a b} (c:a.length=b):qF a b b=(a.map Value.bool).toArray:=by
 unfold qF;rw [zAg oM,zDK];simp
def aGS {b a} (c) (d:b.length=a) (e:c<=a):(qF b a c).size=a:=by
 unfold qF;simp;omega
def aJb {b c a e} (i:b.length=c) (d:b[a]?=some e):(qF b c a).setIfInBounds a (.bool e)=qF b c (a+1):=by
 have j:=(zAc.1 d).1;apply zFs;unfold qF;rw [zFv,zAv,d];have f:c - a=(c -(a+1))+1:=oM;rw [f,List.replicate_succ];have g:((b.take a).map Value.bool).length=a:=by rw [zBc,zAj];omega
 show List.set ((b.take a).map Value.bool++(Value.bool false::List.replicate (c -(a+1)) (Value.bool false))) a _=_;rw [zEs _ _ oM,g,zDK,zAz,zCo];rfl
abbrev w1N (a:List Bool):Nat:=w1 a
def aFW (b:World) (a:List Bool) (e:Ending) (d:World):Prop:=∃c,e=.returned (.slice c a.length a.length)/\Made d b.heap.size 4 1 c a.length a.length (a.map Value.bool)/\Below b.heap.size b d
def jA {gb l w} (f:Bk w gb 240 (dL l)) (r:l.length<=128):
 Calls prog 259 #[gb] w (aFW w l):=by
 obtain ⟨b,c⟩:=eqx l.length;have z:w.cell? gb=some (.int .i64 b):=by rw [<-c];exact (f.cell 0).trans rfl
 have L:=f.lt;have E:=aCa b oM;have y:=r;rw [c] at r;unfold aFW;go_enter func259,ntmps259;go_wp2_with fail;have p:Bk (w.alloc (.cells (Array.replicate b (.bool false)) 4)) w.heap.size 4 (qF l b 0):=by rw [aGR];exact kd _ _ _
 have t:Below w.heap.size w (w.alloc (.cells (Array.replicate b (.bool false)) 4)):=bR.alloc nL _;go_loopw [14] (λo wr=>∃a:Nat,a<=b/\o=.int .i64 a/\Bk wr w.heap.size 4 (qF l b a)/\Below w.heap.size w wr) (λo _=>b -(intOf o).toNat)
 case atStart=>exact ⟨0,zAp _,rfl,p,t⟩
 case round=>
  obtain ⟨a,K,rfl,i,g⟩:=hrel;clear p t E z;have F:=g.size;by_cases k:a < b
  .obtain ⟨e,s⟩:∃e,l[a]?=some e:=⟨_,zAa (by rw [c];exact k)⟩;have C:l.getD a false=e:=(by rw [zAb,s];rfl);go_wp2_with fail;refine (vV a (f.below g f.lt) y (by rw [c];exact k)).mono ?_;rintro H x ⟨rfl,m⟩;rw [C];have d:=i.below m i.lt;have u:=g.trans (zDV m F);have J:=d.lt;have I:=d.frozen a;have q:=d.set a (.bool e);rw [aJb c s] at q;have A:∃v,x.cell? ⟨w.heap.size,a,none⟩=some v:=⟨_,(d.cell a).trans (zAq (by rw [aGS a c oM];exact k))⟩;obtain ⟨v,M⟩:=A;have G:Below w.heap.size w (x.setCell ⟨w.heap.size,a,none⟩ (.bool e)):=u.setCell nL _;clear d m u;go_wp2_with fail;go_roundw
   case rel=>exact ⟨a+1,by omega,by go_num,q,G⟩
   case measure=>exact zr
  .obtain rfl:a=b:=oM;have j:=i;rw [aJc c] at j;have D:=aAp (B:=w.heap.size) (n:=a) j nL (by rw [zBc];exact c) zx;clear j;go_wp2_with fail;go_ret;exact ⟨_,by rw [c];rfl,by rw [c];exact D,g⟩
def oY {gb A m} (o) {B l0 l w} (g:Bk w gb 240 (dL l0)) (x:Rd w B 1 A m (l.map Value.bool)) (hB:B<=w.heap.size) (v:m<=128):
 Calls prog 260 #[gb,.slice A m o] w λq r=>q=.returned (.tuple #[])/\Bk r gb 240 (dL l)/\Keep (λa=>a=gb) w r:=by
 have L:=g.lt;go_enter func260,ntmps260;go_wp2_with fail;refine (gQ o x hB v).mono ?_;rintro q w1 ⟨rfl,f,i⟩;have b:=g.below i g.lt;have M:gb≠w.heap.size:=oM;obtain ⟨c,j⟩:∃c:Nat,l.length=c:=⟨_,rfl⟩;obtain ⟨d,k⟩:∃d:Nat,w0 l=d:=⟨_,rfl⟩;obtain ⟨e,n⟩:∃e:Nat,w1N l=e:=⟨_,rfl⟩;have y:w1.cell? w.heap.size=some (.int .i64 c):=by rw [<-j];exact (f.cell 0).trans rfl
 have z:w1.cell? ⟨w.heap.size,1,none⟩=some (.int .u64 d):=by rw [<-k];exact (f.cell 1).trans rfl
 have C:w1.cell? ⟨w.heap.size,2,none⟩=some (.int .u64 e):=by rw [<-n];exact (f.cell 2).trans rfl
 have D:w1.cell? gb=some (.int .i64 l0.length):=(b.cell 0).trans rfl;have E:w1.cell? ⟨gb,1,none⟩=some (.int .u64 (w0 l0:Nat)):=(b.cell 1).trans rfl;have G:w1.cell? ⟨gb,2,none⟩=some (.int .u64 (w1N l0:Nat)):=(b.cell 2).trans rfl;have H:=b.frozen 0;have I:=b.frozen 1;have J:=b.frozen 2;have K:=b.lt;have N:=f.lt;have t:=((b.set 0 (.int .i64 c)).set 1 (.int .u64 d)).set 2 (.int .u64 e);have u:Keep (λa=>a=gb) w (((w1.setCell gb (.int .i64 c)).setCell ⟨gb,1,none⟩ (.int .u64 d)).setCell ⟨gb,2,none⟩ (.int .u64 e)):=
  ka (F:=λa=>a=gb) (ka (F:=λa=>a=gb) (ka (F:=λa=>a=gb) (kF i) (p:=gb) (.inl rfl) _) (p:=⟨gb,1,none⟩) (.inl rfl) _) (p:=⟨gb,2,none⟩) (.inl rfl) _
 have s:dL l=#[Value.int .i64 c,.int .u64 d,.int .u64 e]:=by show #[Value.int .i64 l.length,Value.int .u64 (w0 l:Nat),Value.int .u64 (w1N l:Nat)]=_;rw [j,k,n]
 clear i b f j k n;go_wp2_with fail;refine bodyPost_end (results_none rfl _ _ _) rfl ?_;rw [s];exact ⟨rfl,t,u⟩
def aBu {gb l w} (f:Bk w gb 240 (dL l)) (x:l.length=128):
 Calls prog 247 #[gb] w λa r=>∃c,a=.returned (.pointer (some ⟨c,0,none⟩))/\w.heap.size<=c/\Bk r c 240 (dL (l.drop 64))/\Bk r gb 240 (dL (l.take 64))/\Keep (λe=>e=gb) w r:=by
 have J:=f.lt;have m:=lhd x;clear x;go_enter func247,ntmps247;go_wp2_with fail;refine (jA f (by rw [m.out];omega)).mono ?_;rintro a w1 ⟨s,rfl,p,g⟩;rw [m.out] at p⊢;have i:=f.below g f.lt;have t:w1.cell? gb=some (.int .i64 128):=by have:=(i.cell 0).trans (b:=some (Value.int .i64 l.length)) rfl;rw [m.out] at this;exact this
 have D:=i.lt;have L:=iC (P:=prog) 119 4 1 underlying119 Tryz.sizeOf4 s 128 128 64 oM;have M:=jH (P:=prog) 119 4 1 underlying119 Tryz.sizeOf4 s 128 128 64 oM;go_wp2_with fail;have q:=p.rd.cut (k:=64) (cap:=128) oM oM;rw [zBl,<-zEb] at q;refine (gQ 64 q nL oM).mono ?_;rintro a G ⟨rfl,y,d⟩;obtain ⟨c,n⟩:=eqx w1.heap.size;rw [n] at y;have u:=i.below d i.lt;have I:G.cell? gb=some (.int .i64 128):=(d.cell (by exact D)).trans t;have K:=u.lt;have z:=(((p.rd.cut_hi (k:=64) oM).below d).mono d.size);rw [zBl,<-zDw] at z;have j:=lhd n;clear t q n;go_wp2_with fail;refine (oY _ u z nL oM).mono ?_;rintro a H ⟨rfl,B,o⟩;have F:c≠gb:=zj j.out
 have E:=o.d y (λa=>F a);have C:Keep (λe=>e=gb) w H:=(kF (g.trans (zDV d g.size))).trans o;have v:w.heap.size<=c:=zk j.out g.size
 clear o;go_wp2_with fail;go_ret;have A:=E;rw [<-j.out] at A v;exact ⟨_,rfl,v,A,B,C⟩
def sI (c:List Bool):∀a∈c.map Value.bool,a.oneCell'=true:=λa b=>by
 obtain ⟨d,_,rfl⟩:=zAy.1 b;rfl
def aLX:(prog.info? 240).map (·.size)=some 3:=by kernel_rfl
def aLY {b c d e a} (g:Bk a b 240 d) (l:Bk a c 240 e) (k:c≠b):
 (binOp .eql 224 (.pointer (some c)) (.pointer (some b))).run prog a=.ok (.bool false) a:=by
 obtain ⟨m,i,j⟩:=zEF.1 aLX;exact run_eql_ptr_other a underlying224 i (by rw [j];decide) (λf=>k (by injection f)) l g
def aBY {c d f g e} (j:Bk e c 240 (dL f)) (u:Bk e d 240 (dL g)) (D:d≠c) (N:f.length+g.length<=128):
 Calls prog 262 #[c,d] e λb V=>b=.returned (.int .i64 0)/\Bk V c 240 (dL (f++g))/\Keep (λa=>a=c∨a=d) e V:=by
 obtain ⟨an,ae,ak,al,am⟩:=info_parts nE;obtain ⟨i,q⟩:=eqx f.length;obtain ⟨a,s⟩:=eqx g.length;have ad:=aLY j u D;have a7:e.cell? c=some (.int .i64 i):=by rw [<-q];exact (j.cell 0).trans rfl
 have a9:e.cell? d=some (.int .i64 a):=by rw [<-s];exact (u.cell 0).trans rfl
 rw [q,s] at N;have au:=zn ((i:Int)+a > 128);have av:=j.lt;have aw:=u.lt;have a0:=j;obtain ⟨I,H⟩:=hqq2 q s;clear j q s;go_enter func262,ntmps262;go_wp2_with fail;clear ad;go_quiet (fail);go_wp2_with fail;have r:=a0.drewN nq;have E:=u.drewN nq;have C:Keep (λa=>a=c∨a=d) e (e.drewN nq):=(ke _ _).drewN nq;generalize e.drewN nq=W at*
 refine (jA (gb:=c) (l:=f) (w:=W) r (by rw [I.out];omega)).mono ?_;rintro b w1 ⟨F,rfl,O,n⟩;have aj:=C.size;have ax:=n.size;have J:=(r.below n r.lt);have v:=(E.below n E.lt);have a2:=(C.trans (kF n));clear r E C n a7 a9;go_wp2_with fail;refine (jA (gb:=d) (l:=g) (w:=w1) v (by rw [H.out];omega)).mono ?_;rintro b aA ⟨ar,rfl,R,k⟩;rw [I.out] at O⊢;rw [H.out] at R⊢;have K:=(J.below k J.lt);have M:=(v.below k v.lt);have a3:=(a2.trans (kF k));have o:=(O.below k);have T:=o.own;have ay:=k.size;have L:∀p,(Value.slice F i i).ownBlock=some p->p≠c/\p≠d:=λp b=>⟨λx=>absurd (by have:=bC o.own K dC;rw [b,x] at this;exact this rfl) id,λx=>absurd (by have:=bC o.own M dC;rw [b,x] at this;exact this rfl) id⟩;have Z:=(λa j=>(T.lt a j).1);clear k T
 rename_i U
 refine U _ _<|bE _ rfl (.tmp 29) (.tmp 31) _ rfl W.heap.size 4 an (.bool false) 1 1 underlying119 ae ak al am rfl dC (.slice F i i) i _ rfl o.own _ _ _ _ _ rfl R.rd (sI _) zx oM oM ?_;intro az X S t aa;obtain ⟨Y,a8,rfl,ah⟩:=aR S;have ab:=K.grown t (λb=>(L c b.symm).1 rfl);have ai:=M.grown t (λb=>(L d b.symm).2 rfl);have ag:Keep (λa=>a=c∨a=d) e X:=a3.grown t (λao af=>.inr (zAk aj (Z ao af)));clear S t aa U;go_wp2_with fail;refine (oY (gb:=c) (A:=Y) (m:=(i+a)) (l0:=f) (l:=(f++g)) (w:=X) a8 ab (by rw [zAz];exact ah.rd) nL N).mono ?_;rintro b ap ⟨rfl,ac,y⟩;have a6:=(y.d ai (λb=>D b));have a4:=(ag.trans (y.mono (G:=λa=>a=c∨a=d) λaq _ b=>.inl b));clear y;go_wp2_with fail;refine (oY (gb:=d) (A:=none) (m:=0) (B:=0) (l0:=g) (l:=[]) (w:=ap) 0 a6 (Rd.nil _ _ _ _) (zAp _) oM).mono ?_;rintro b aB ⟨rfl,_,z⟩;have a1:=(z.d ac (λb=>D (show c=d from b).symm));have a5:=(a4.trans (z.mono (G:=λa=>a=c∨a=d) λaq _ b=>.inr b));clear z;go_wp2_with fail;go_ret;exact ⟨rfl,a1,a5⟩
def aD7 {b c i j a} (e:Bk a b 240 (dL i)) (g:Bk a c 240 (dL j)) (r:c≠b) (q:128 < i.length+j.length) (n:i.length<=128) (o:j.length<=128):
 Calls prog 262 #[b,c] a λm s=>m=.returned (.int .i64 3)/\Below a.heap.size a s:=by
 obtain ⟨k,d⟩:=eqx i.length;obtain ⟨l,f⟩:=eqx j.length;have p:=aLY e g r;have t:a.cell? b=some (.int .i64 k):=by rw [<-d];exact (e.cell 0).trans rfl
 have u:a.cell? c=some (.int .i64 l):=by rw [<-f];exact (g.cell 0).trans rfl
 rw [d,f] at q;rw [d] at n;rw [f] at o;have v:=zy ((k:Int)+l > 128);have w:=e.lt;have x:=g.lt;clear e g d f;go_enter func262,ntmps262;go_wp2_with fail;clear p;go_quiet (fail);go_wp2_with fail;go_ret;exact ⟨rfl,km bR _⟩
def uF (b a:Nat) (c:Bool):Nat:=(b % 2 ^ a|||(if c then 2 ^ a else 0))|||(b&&&(18446744073709551615 - b % 2 ^ a))*2 % 18446744073709551616
def qG (a b:Nat) (c:Bool):Nat:=(a % 2 ^ b|||(a / 2&&&(18446744073709551615 - a / 2 % 2 ^ b)))|||(if c then 9223372036854775808 else 0)
def aHQ {b} (a) (c:b < 18446744073709551616):(18446744073709551615 - b).testBit a=(decide (a < 64)&& !b.testBit a):=by
 have:=zFm (n:=64) (x:=b) oM a;rw [<-this];congr 1;omega
def aLk (c b a):(c % 2 ^ b).testBit a=(decide (a < b)&&c.testBit a):=zEZ _ _ _
def aHL (b a):(2 ^ b).testBit a=decide (b=a):=Nat.testBit_two_pow
def aNl (b a):(b*2 % 18446744073709551616).testBit a=(decide (a < 64)&&(decide (0 < a)&&b.testBit (a - 1))):=by
 have c:(18446744073709551616:Nat)=2 ^ 64:=dC;rw [c,aLk];congr 1;rcases a with _ | a
 .simp
 .rw [zEt,Nat.mul_div_cancel _ (by decide:0 < 2)];simp
def aAr {a} (c) (b:a < 18446744073709551616):a % 2 ^ c < 18446744073709551616:=zDF (Nat.mod_le _ _) b
def aOp {b} (a) (d:b < 18446744073709551616) (c:64<=a):b.testBit a=false:=zEp (zAl d (zBp (n:=2) dC c))
def aC0 {c} (b a d) (o:c < 18446744073709551616) (q:b < 64):(uF c b d).testBit a=if a < b then c.testBit a else if a=b then d else (decide (a < 64)&&c.testBit (a - 1)):=by
 unfold uF;rw [zGj,zGj,aNl,zEW,aHQ _ (aAr b o),aLk,aLk];have n:(if d then 2 ^ b else 0:Nat).testBit a=(decide (b=a)&&d):=by
  cases d
  .simp
  .simp [aHL]
 rw [n];by_cases f:a < b
 .have e:=zy (a - 1 < b);have g:=zn (b=a);rw [zBx f,zBz f,e,g];cases r:c.testBit a <;> cases p:c.testBit (a - 1)<;> simp
 .rw [zBw f,zBy f];by_cases i:a=b
  .subst i;rw [zBx rfl];by_cases j:a=0
   .subst j;simp
   .have e:=zy (a - 1 < a);rw [e];cases p:c.testBit (a - 1)<;> simp
  .have e:=zn (a - 1 < b);have g:=zn (b=a);have k:=zy (0 < a);rw [zBw i,e,g,k];by_cases l:a < 64
   .have m:=zy (a - 1 < 64);rw [m];simp
   .simp [l]
def aDh {b} (d a c) (j:b < 18446744073709551616) (o:d < 64):(qG b d c).testBit a=if a < d then b.testBit a else if a < 63 then b.testBit (a+1) else (decide (a=63)&&c):=by
 unfold qG;have m:b / 2 < 18446744073709551616:=zDF (zDZ _ _) j;have n:∀g,(b / 2).testBit g=b.testBit (g+1):=λg=>by rw [zEt]
 rw [zGj,zGj,zEW,aHQ _ (aAr d m),aLk,aLk,n];have l:(if c then 9223372036854775808 else 0:Nat).testBit a=(decide (a=63)&&c):=by
  cases c
  .simp
  rw [zBx rfl,show (9223372036854775808:Nat)=2 ^ 63 by decide,aHL,Bool.and_true];congr 1;exact propext eq_comm
 rw [l];by_cases e:a < d
 .have f:=zn (a=63);rw [zBx e,zBz e,f];cases p:b.testBit a <;> cases q:b.testBit (a+1)<;> simp
 .rw [zBw e,zBy e];by_cases i:a < 63
  .have f:=zn (a=63);have k:=zy (a < 64);rw [zBx i,f,k];simp
  .rw [zBw i,aOp (a+1) j oM];simp
def kI (b a):(w0 b).testBit a=(decide (a < 64)&&b.getD a false):=by unfold w0;rw [lN,aIl]
def iU (b a):(w1 b).testBit a=b.getD (64+a) false:=by unfold w1;rw [lN,aJh]
def zJ (b:List Bool) (a:Nat) (c:b.length<=a):b.getD a false=false:=by
 rw [zAb,zBg c];rfl
def aN5 {l k} (c) (f:k<=l.length) (i:l.length<=127) (g:k < 64):w0 (aT l k c)=uF (w0 l) k c/\w1 (aT l k c)=uF (w1 l) 0 (l.getD 63 false):=by
 constructor
 .refine zDj λa=>?_;rw [aC0 _ _ _ (pG l) g,kI,kI,kI,rN c f];by_cases e:a < k
  .rw [zBx e,zBx e]
  .rw [zBw e,zBw e];by_cases b:a=k
   .rw [zBx b,zBx b,zBz oM,zDO]
   .rw [zBw b,zBw b];by_cases d:a < 64
    .rw [zBz d,zBz (show a - 1 < 64 by omega),zDO,zDO]
    .rw [zBy d,zDX,zDX]
 .refine zDj λa=>?_;rw [aC0 _ _ _ (pA (l:=l) oM) dC,iU,iU,rN c f,zBw oM,zBw oM,zBw oM];by_cases b:a=0
  .subst b;rw [zBx rfl]
  .rw [zBw b,show 64+a - 1=64+(a - 1) by omega,iU];by_cases d:a < 64
   .rw [zBz d,zDO]
   rw [zBy d,zDX];exact zJ l _ oM
def aN6 {l k} (b) (f:k<=l.length) (i:l.length<=127) (g:64<=k):w0 (aT l k b)=w0 l/\w1 (aT l k b)=uF (w1 l) (k - 64) b:=by
 constructor
 .refine zDj λa=>?_;rw [kI,kI,rN b f];by_cases c:a < 64
  .rw [zBz c,zBx oM]
  .rw [zBy c,zDX,zDX]
 .refine zDj λa=>?_;rw [aC0 _ _ _ (pA (l:=l) oM) oM,iU,iU,iU,rN b f];by_cases d:a < k - 64
  .rw [zBx oM,zBx d]
  .rw [zBw oM,zBw d];by_cases e:a=k - 64
   .rw [zBx oM,zBx e]
   .rw [zBw oM,zBw e,show 64+a - 1=64+(a - 1) by omega];by_cases c:a < 64
    .rw [zBz c,zDO]
    rw [zBy c,zDX];exact zJ l _ oM
def aOv {l k} (e:k < l.length) (g:l.length<=128) (f:k < 64):w0 (aK l k)=qG (w0 l) k (l.getD 64 false)/\w1 (aK l k)=qG (w1 l) 0 false:=by
 constructor
 .refine zDj λa=>?_;rw [aDh _ _ _ (pG l) f,kI,kI,kI,rU e];by_cases c:a < k
  .rw [zBx c,zBx c]
  .rw [zBw c,zBw c];by_cases b:a < 63
   .rw [zBx b,zBz (show a < 64 by omega),zBz (show a+1 < 64 by omega)]
   .rw [zBw b];by_cases d:a=63;subst d;rfl
    .rw [zBy d,zBy (show ¬a < 64 by omega),zDX,zDX]
 .refine zDj λa=>?_;rw [aDh _ _ _ (pA g) dC,iU,iU,rU e,zBw oM,zBw oM,Bool.and_false];by_cases b:a < 63
  .rw [zBx b,show 64+a+1=64+(a+1) by omega,iU]
  rw [zBw b];exact zJ l _ oM
def cut_hi {l k} (e:k < l.length) (f:l.length<=128) (g:64<=k):w0 (aK l k)=w0 l/\w1 (aK l k)=qG (w1 l) (k - 64) false:=by
 constructor
 .refine zDj λa=>?_;rw [kI,kI,rU e];by_cases d:a < 64
  .rw [zBz d,zBx oM]
  .rw [zBy d,zDX,zDX]
 .refine zDj λa=>?_;rw [aDh _ _ _ (pA f) oM,iU,iU,iU,rU e,Bool.and_false];by_cases b:a < k - 64
  .rw [zBx oM,zBx b]
  .rw [zBw oM,zBw b,show 64+a+1=64+(a+1) by omega];by_cases c:a < 63
   .rw [zBx c]
   rw [zBw c];exact zJ l _ oM
def aMt {a} (b:a < 18446744073709551616):decide (a / 9223372036854775808=1)=a.testBit 63:=by
 rw [zES];have:a / 2 ^ 63 % 2=a / 9223372036854775808:=by rw [show (2:Nat)^ 63=9223372036854775808 by decide];omega
 rw [this]
def aFa {b a:Nat} (e:b < 18446744073709551616) (f:a < 18446744073709551616):bits .andNot .u64 (b:Int) (a:Int)=((b&&&(18446744073709551615 - a):Nat):Int):=by
 have c:b % 2 ^ 64=b:=zBu oM;have d:a % 2 ^ 64=a:=zBu oM;have g:b&&&(18446744073709551615 - a) < 2 ^ 64:=Nat.and_lt_two_pow _ oM;show IntKind.u64.wrap ((BitVec.ofInt 64 (b:Int)&&& ~~~ BitVec.ofInt 64 (a:Int)).toNat:Nat)=_;rw [zDQ,zDQ,zGt,BitVec.toNat_not,zDG,zDG,c,d,kn,show 2 ^ 64 - 1 - a=18446744073709551615 - a by omega];omega
def aHN {a b} (c:a < 18446744073709551616) (d:b < 18446744073709551616):a||| b < 18446744073709551616:=Nat.or_lt_two_pow (n:=64) c d
def aFb (a) {b} (c:b < 18446744073709551616):a&&& b < 18446744073709551616:=Nat.and_lt_two_pow (n:=64) a c
def aGK (b:Nat) {a:Nat} (c:a < 64):aDa b (a:Int)=b % 2 ^ a:=by
 unfold aDa;rw [show min ((a:Int)).toNat 64=a by omega]
def aMr {x k:Nat} (d) (l:x < 18446744073709551616) (v:k < 64) (A):
 Calls prog 261 #[.int .u64 x,(k:Int),.bool d] A λr G=>r=.returned (.tuple #[.int .u64 (uF x k d:Nat),.bool (x.testBit 63)])/\A=G:=by
 have w:=aGK x v;obtain ⟨b,f⟩:=eqx (x % 2 ^ k);have n:b < 18446744073709551616:=by rw [<-f];exact aAr k l
 obtain ⟨e,j⟩:=eqx (2 ^ k);have O:e < 18446744073709551616:=by rw [<-j];exact zET (a:=2) dC (show k < 64 from v)
 have N:(2:Int)^ k=e:=by rw [<-j];push_cast;rfl
 obtain ⟨q,c⟩:=eqx ((if d then e else 0:Nat));have t:q < 18446744073709551616:=by rw [<-c];split <;> omega
 have H:IntKind.u64.wrap e=(e:Int):=zv
 have s:=aIS b n t;obtain ⟨m,g⟩:=eqx (b||| q);have E:m < 18446744073709551616:=by rw [<-g];exact aHN n t
 have C:=aFa l n;obtain ⟨o,i⟩:=eqx (x&&&(18446744073709551615 - b));have M:o < 18446744073709551616:=by rw [<-i];exact aFb _ oM
 obtain ⟨p,y⟩:=eqx (o*2 % 18446744073709551616);have F:p < 18446744073709551616:=oM;have J:IntKind.u64.wrap (o*2)=(p:Int):=zv
 have D:=aIS m E F;have u:uF x k d=m||| p:=by unfold uF;rw [f,j,c,g,i,y]
 have z:((x:Int)/ 9223372036854775808==1)=x.testBit 63:=by rw [<-aMt l,zEd,zCr,zCa];omega
 rw [g] at s;rw [i] at C;rw [u,<-z];have K:decide ((k:Int) < 0)=false:=zs
 have L:¬((k:Int)>=64):=oM;have B:=(w.trans f);clear u z w f j g i y;go_enter func261,ntmps261;go_wp2_with fail;refine (uR (k:Int) l oM _).mono ?_;rintro r w1 ⟨rfl,rfl⟩;rw [B];cases d with
 | true=>
  rw [zBx rfl] at c;subst c;go_wp2_with fail;go_ret2;exact ⟨rfl,rfl⟩
 | false=>
  rw [zBw zs] at c;subst c;have I:bits .or .u64 (b:Int) 0=(m:Int):=s;go_wp2_with fail;go_ret2;exact ⟨by rw [<-D];rfl,rfl⟩
def aFV {x:Nat} (a:Nat) (f) (q:x < 18446744073709551616) (B:a < 64) (F):
 Calls prog 252 #[.int .u64 x,(a:Int),.bool f] F λg R=>g=.returned (.tuple #[.int .u64 (qG x a f:Nat),.bool (x.testBit a)])/\F=R:=by
 have C:=aGK x B;have o:=aGK (x / 2) B;obtain ⟨n,i⟩:=eqx (x % 2 ^ a);have y:n < 18446744073709551616:=by rw [<-i];exact aAr a q
 have O:x / 2 < 18446744073709551616:=oM;obtain ⟨u,d⟩:=eqx (x / 2 % 2 ^ a);have L:u < 18446744073709551616:=by rw [<-d];exact aAr a O
 obtain ⟨s,m⟩:=eqx (x / 2);have Z:(x:Int)/ 2=s:=oM;have r:s < 18446744073709551616:=oM;obtain ⟨v,e⟩:=eqx ((if f then 9223372036854775808 else 0:Nat));have M:v < 18446744073709551616:=by rw [<-e];split <;> omega
 have I:=aFa r L;obtain ⟨E,l⟩:=eqx (s&&&(18446744073709551615 - u));have D:E < 18446744073709551616:=by rw [<-l];exact aFb _ oM
 have H:=aIS n y D;obtain ⟨c,k⟩:=eqx (n||| E);have N:c < 18446744073709551616:=by rw [<-k];exact aHN y D
 have w:=aIS c N M;have A:qG x a f=c||| v:=by unfold qG;rw [i,m,e];rw [m] at d;rw [d,l,k]
 obtain ⟨b,j⟩:=eqx (x / 2 ^ a);have V:(x:Int)/ 2 ^ a=b:=by rw [<-j];push_cast;rfl
 have W:b < 18446744073709551616:=by rw [<-j];exact zDF (zDZ _ _) q
 have K:bits .and .u64 (b:Int) 1=((b&&& 1:Nat):Int):=(bits_nat .u64 64 dC (λa0 T U=>by rw [kn];omega) b 1 oM dC).1;have p:(((b&&& 1:Nat):Int)==1)=x.testBit a:=by rw [zES,j,zEN,zEd,zCr,zCa];omega
 obtain ⟨S,z⟩:=eqx (b&&& 1);rw [z] at K p;rw [k] at H;rw [l] at I;rw [A,<-p];have X:decide ((a:Int) < 0)=false:=zs
 have Y:¬((a:Int)>=64):=oM;rw [m] at o d;have G:=(C.trans i);have t:=(o.trans d);clear A p C o i d m k l j z;go_enter func252,ntmps252;go_wp2_with fail;refine (uR (a:Int) q oM _).mono ?_;rintro g w1 ⟨rfl,rfl⟩;rw [G];cases f with
 | true=>
  rw [zBx rfl] at e;subst e;have J:bits .or .u64 (c:Int) 9223372036854775808=((c||| 9223372036854775808:Nat):Int):=w;go_wp2_with fail;refine (uR (a:Int) r oM _).mono ?_;rintro g w1 ⟨rfl,rfl⟩;rw [t];go_wp2_with fail;go_ret2;exact ⟨rfl,rfl⟩
 | false=>
  rw [zBw zs] at e;subst e;have J:bits .or .u64 (c:Int) 0=((c||| 0:Nat):Int):=w;go_wp2_with fail;refine (uR (a:Int) r oM _).mono ?_;rintro g w1 ⟨rfl,rfl⟩;rw [t];go_wp2_with fail;go_ret2;exact ⟨by rw [Nat.or_zero];rfl,rfl⟩
section
section
variable {P : Program} {ops : Array Oper} {Q : Exit -> Act -> World -> Prop} {md : Region.Mode}
def aCK {ds} {C:(Operand->Value)->World->Prop} (m:Nat->Value->World->World->Prop) (o:Nat->World->Prop) (k:Nat->(Operand->Value)->Value->World->Prop) {a0 W0} (A:ops.toList.filterMap (·.dst)=ds) (D:kL md ops a0.tmps.size=true) (w:C a0.eval W0) (y:∀c,o c W0) (v:∀a e d i f b g,ops[a]?=some e->(∀l,e.dst=some l->i (.tmp l)=f)->(∀j,e.dst≠some j->i (.tmp j)=d (.tmp j))->C d b->m a f b g->C i g) (x:∀c a f b g,c≠a->upB md ops ops.size a c=false->o c b->m a f b g->o c g) (F:∀a e d i f b,ops[a]?=some e->(∀j,e.dst≠some j->i (.tmp j)=d (.tmp j))->k a d f b->k a i f b) (G:∀c a e d i f q b g,ops[a]?=some e->(∀j,e.dst≠some j->i (.tmp j)=d (.tmp j))->c≠a->upB md ops ops.size c a=false->k c d f b->C d b->m a q b g->k c i f g) (H:∀a e,ops[a]?=some e->zM P ops Q md C m o k a0 a e) (B:∀(d:Operand->Value) b,C d b->(∀c l,((ops[c]?).bind (·.dst))=some l->k c d (d (.tmp l)) b)->(∀c,c < ops.size->∃f,k c d f b)->Q .normal (dJ d ds a0) b):
 wpAny P md ops Q ops.size (Array.replicate ops.size false) a0 W0:=by
 exact mP (n:=ops.size) (by rw [zR];exact A) nL D (λL c r p=>absurd p oM) w y (λa e d i f b g _=>v a e d i f b g) (λc a _ f b g _ r p t _ u=>x c a f b g r p t u) F (λc a e d i f q b g _ _=>G c a e d i f q b g) (λa e _ E=>H a e E) λd b K z I J=>qD rfl (B d b z (λc l s=>I c l (aGX s) s) J)
end
def blk?:Value->Option Nat
 | .pointer (some a)=>some a.block
 | .slice (some a) _ _=>some a.block
 | _=>none
def aFX (d:List Nat) (c:Operand->Value) (f:World):Prop:=
 (∀b∈d,∀a,blk? (c (.tmp b))=some a->a < f.heap.size)/\∀b∈d,∀e∈d,b≠e->∀a,blk? (c (.tmp b))=some a->blk? (c (.tmp e))≠some a
def aAQ {d c j} (g:(d.all λa=>(blk? (c (.tmp a))).isNone)=true):aFX d c j:=by
 have i:∀a∈d,blk? (c (.tmp a))=none:=λa b=>by simpa using zBf.1 g a b
 refine ⟨λa b f e=>?_,λa b _ _ _ f e=>?_⟩<;>(rw [i a b] at e;cases e)
def aMm (b:Value) (c d:World):Prop:=∀a,blk? b=some a->c.heap.size<=a/\a < d.heap.size
def aCG (g:List Nat) (ops:Array Oper) (e:World->World->Prop) (d c:Nat) (i:Value) (a b:World):Prop:=a.heap.size<=b.heap.size/\(c=d->e a b)/\(c≠d->Grow a b)/\∀f∈g,((ops[c]?).bind (·.dst))=some f->aMm i a b
def dX {d ops} {i:World->World->Prop} {c b o f g} (e:Grow f g) (n:(b==c)=false) (m:(d.all λa=>((ops[b]?).bind (·.dst))!= some a)=true):aCG d ops i c b o f g:=
 ⟨e.size,λj=>by simp [j] at n,λ_=>e,λa k l=>by have:=zBf.1 m a k;simp [l] at this⟩
def kY {j ops} {g:World->World->Prop} {c e f a b} (d:Grow a b) (l:(e==c)=false) (k:aMm f a b):aCG j ops g c e f a b:=
 ⟨d.size,λi=>by simp [i] at l,λ_=>d,λ_ _ _=>k⟩
def aLj {f ops} {e:World->World->Prop} {a n c d} (i:e c d) (m:c.heap.size<=d.heap.size) (l:(f.all λb=>((ops[a]?).bind (·.dst))!= some b)=true):aCG f ops e a a n c d:=
 ⟨m,λ_=>i,λg=>absurd rfl g,λb j k=>by have:=zBf.1 l b j;simp [k] at this⟩
abbrev KP:=List Nat×((Operand->Value)->Value->World->Prop)
def k0 (a:Value->World->Prop):KP:=([],λ_ b c=>a b c)
def kEq (a:Nat):KP:=([a],λb c _=>c=b (.tmp a))
def kLk (b c:Nat) (d:Value->Value->World->Prop):KP:=([b,c],λa _ e=>d (a (.tmp b)) (a (.tmp c)) e)
def aFR (a:KP):Prop:=∀b c:Operand->Value,(∀d∈a.1,c (.tmp d)=b (.tmp d))->∀e f,a.2 b e f->a.2 c e f
def aGY (b):aFR (k0 b):=λ_ _ _ _ _ a=>a
def aH7 (a):aFR (kEq a):=λf b d e g c=>by
 show e=b (.tmp a);rw [d a (by simp [kEq])];exact c
def aNi (a b) (e:Value->Value->World->Prop):aFR (kLk a b e):=λi c d j g f=>by
 show e (c (.tmp a)) (c (.tmp b)) g;rw [d a (by simp [kLk]),d b (by simp [kLk])];exact f
def aHj (f:World->World->Prop) (b:KP):Prop:=∀a c d e,b.2 a c d->f d e->b.2 a c e
def kM {e:World->World->Prop} {d} (f:∀a b c,d a b->e b c->d a c):aHj e (k0 d):=λ_ a b c g i=>f a b c g i
def yZ (a:World->World->Prop) (b):aHj a (k0 (is b)):=λ_ _ _ _ c _=>c
def aEm (a:World->World->Prop):aHj a (k0 cO):=λ_ _ _ _ _ _=>trivial
def tZ (a:World->World->Prop) (c):aHj a (kEq c):=λ_ _ _ _ b _=>b
def tY {d:World->World->Prop} {k l} {c:Value->Value->World->Prop} (g:∀e f a b,c e f a->d a b->c e f b):aHj d (kLk k l c):=λ_ _ a b i j=>g _ _ a b i j
def VsQ (c:List KP) (b:Nat) (a:Operand->Value) (d:Value) (e:World):Prop:=(c.getD b (k0 cO)).2 a d e
def aHF (a:List KP) (b):a.getD b (k0 cO)∈a∨a.getD b (k0 cO)=k0 cO:=by
 rw [zAb];cases c:a[b]? with
 | none=>exact .inr rfl
 | some d=>exact .inl (zAd c)
def zQ {P:Program} {ops:Array Oper} {Q:Exit->Act->World->Prop} {md:Region.Mode} (I:List Nat) {fs:List Nat} (A:Nat) (B:World->World->Prop) {C:World->Prop} (g:List KP) {w:Act} {G:World} (r:ops.toList.filterMap (·.dst)=I) (S:kL md ops w.tmps.size=true) (ae:((List.range ops.size).all λb=>(List.range ops.size).all λc=>match ops[c]? with
 | some e=>upB md ops ops.size b c||(g.getD b (k0 cO)).1.all λj=>e.dst != some j
 | none=>true)=true) (a3:C G) (a1:aFX fs w.eval G) (a2:∀a k,C a->(Grow a k∨B a k)->C k) (a9:∀F∈g,aFR F) (L:∀F∈g,aHj Grow F) (ah:∀F∈g.eraseIdx A,aHj B F) (ai:∀c e,ops[c]?=some e->zM P ops Q md (λd a=>C a/\aFX fs d a) (aCG fs ops B A) (λ_ _=>True) (VsQ g) w c e) (ab:∀(d:Operand->Value) a,C a->aFX fs d a->(∀b D,((ops[b]?).bind (·.dst))=some D->VsQ g b d (d (.tmp D)) a)->(∀b,b < ops.size->∃f,VsQ g b d f a)->Q .normal (dJ d I w) a):
 wpAny P md ops Q ops.size (Array.replicate ops.size false) w G:=by
 have a7:∀ {c f a k},aCG fs ops B A c f a k->Grow a k∨B a k:=λ{c f a k} p=>by by_cases u:c=A;exact .inr (p.2.1 u);exact .inl (p.2.2.1 u)
 have ag:∀c,upB md ops ops.size c c=false:=by
  intro c;cases O:upB md ops ops.size c c with
  | false=>rfl
  | true=>exact (aF3 S nL O).elim
 have aa:∀b,aFR (g.getD b (k0 cO)):=λb=>by rcases aHF g b with p | p;exact a9 _ p;rw [p];exact aGY _
 have R:∀b c e (d o:Operand->Value) f a,b < ops.size->ops[c]?=some e->(∀j,e.dst≠some j->o (.tmp j)=d (.tmp j))->upB md ops ops.size b c=false->VsQ g b d f a->VsQ g b o f a:=by intro b c e d o f a y n q N z;have l:=zBf.1 (zBf.1 ae b (by simpa using y)) c (by simpa using (zAh.1 n).1);simp only [n,N,zGm] at l;exact aa b d o (λj ht=>q j (by have:=zBf.1 l j ht;simpa using this)) f a z
 refine aCK (ds:=I) (C:=(λd a=>C a/\aFX fs d a)) (a0:=w) (W0:=G) (aCG fs ops B A) (λ_ _=>True) (λb d f a=>b < ops.size->VsQ g b d f a) r S ⟨a3,a1⟩ (λ_=>trivial) (λc e d o f a k n x q p E=>⟨a2 a k p.1 (a7 E),?_⟩) (λ_ _ _ _ _ _ _ _ _=>trivial) (λc e d o f a n q z u=>R c c e d o f a u n q (ag c) (z u)) (λb c e d o f al a k n q ac N z O E y=>?_) (λc e n V a l m W X Y Z U a4=>ai c e n V a l m W X Y (λJ q a8 aj D T x=>Z J q a8 aj D T x (zAh.1 T).1) U (λf k a5 a6=>a4 f k a5 λ_=>a6)) (λd a p l m=>ab d a p.1 p.2 (λb D x=>l b D x (by
  cases n:ops[b]? with
  | none=>rw [n] at x;cases x
  | some e=>exact (zAh.1 n).1)) (λb y=>(m b y).imp λf z=>z y))
 .have ak:=E.1;obtain ⟨l,m⟩:=p.2;have M:∀i∈fs,e.dst=some i->aMm (o (.tmp i)) a k:=λi v r=>by rw [x i r];exact E.2.2.2 i v (by rw [n];exact r)
  refine ⟨λi v s t=>?_,λi v j ht L s t H=>?_⟩;by_cases r:e.dst=some i;exact (M i v r s t).2;rw [q i r] at t;have:=l i v s t;omega;by_cases r:e.dst=some i;have K:e.dst≠some j:=λJ=>L (by rw [r] at J;injection J);rw [q j K] at H;have:=(M i v r s t).1;have:=l j ht s H;omega;rw [q i r] at t;by_cases K:e.dst=some j;have:=(M j ht K s H).1;have:=l i v s t;omega;rw [q j K] at H;exact m i v j ht L s t H
 .have l:=R b c e d o f a y n q N (z y);unfold VsQ at l⊢;by_cases u:c=A
  .subst u
   have af:g.getD b (k0 cO)∈g.eraseIdx c∨g.getD b (k0 cO)=k0 cO:=by
    rw [zAb];cases ad:g[b]? with
    | none=>exact .inr rfl
    | some F=>exact .inl (List.mem_eraseIdx_iff_getElem?.2 ⟨b,ac,ad⟩)
   rcases af with m | m;exact ah _ m o f a k l (E.2.1 rfl)
   .rw [m];trivial
  .rcases aHF g b with m | m;exact L _ m o f a k l (E.2.2.1 u)
   .rw [m];trivial
end
def TabW (a:World):Prop:=TabAt 0 Lib.deBruijn64tab a
def TabW.below {B b c} (d:TabW b) (f:Below B b c) (hB:0 < B):TabW c:=λa e=>(f.cell (p:=⟨0,a,none⟩) hB).trans (d a e)
def TabW.pos {a} (c:TabW a):0 < a.heap.size:=by
 have d:=c 0 dC;rcases zBe 0 a.heap.size with b | b;exact b
 .exfalso;have:a.heap[0]?=none:=zDn b;simp [World.cell?,this] at d
def aOT {b c} (g:b < 18446744073709551616) (f:Lib.ctz 64 b=c) {a} (e:TabW a):
 Calls prog 250 #[.int .u64 b] a λd i=>d=.returned (.int .i64 c)/\i=a:=by
 have:=Any7.bits_TrailingZeros64 shTz b g a (λ_=>e);rw [f] at this;exact this
def jB {a r c} (q:a < 18446744073709551616) (o:a.testBit r=true) (n:bQ a r=c) (w:c < bQ a 64) {d} (g:TabW d) (I:0 < d.heap.size):
 Calls prog 236 #[.int .u64 a,(c:Int)] d λl L=>l=.returned (.int .i64 r)/\Below d.heap.size d L:=by
 have G:=aNo (x:=a) q o n;have A:=λe H=>aIb (x:=a) q o (i:=e) H;rw [n] at A;have y:=aG7 a;have F:=rJ a 64;have M:=w;have E:=g;clear o n g;have P:decide ((c:Int) < 0)=false:=zs
 go_enter func236,ntmps236;go_wp2_with fail;refine (jM _ 1 1 _ [a] _ (Rd.made _ _ 1 1 _ rfl) (by simpa using q) oM).mono ?_;rintro l s ⟨rfl,m⟩;have u:Below d.heap.size d s:=by first |(rw [m];exact bR.alloc nL _)|(rw [<-m];exact bR.alloc nL _)
 have B:(([a].map λa=>bQ a 64).sum)=bQ a 64:=zs
 rw [B];obtain ⟨J,z⟩:=eqx (bQ a 64);rw [z] at w F⊢;have Q:decide ((c:Int)>=J)=false:=zt
 clear B z;clear m;go_wp2_with fail;go_loopw [0,15] (λK e wr=>∃b:Nat,b<=c/\e=.int .i64 b/\K=.int .u64 (clr a b:Nat)/\wr=s) (λ_ e _=>c -(intOf e).toNat)
 case atStart=>exact ⟨0,zAp _,rfl,rfl,rfl⟩
 case round=>
  obtain ⟨b,S,rfl,rfl,rfl⟩:=hrel;by_cases R:b < c
  .have t:=A b oM;have j:=y b;have p:clr a (b+1)=clr a b&&&(clr a b - 1):=rfl;obtain ⟨k,f⟩:=eqx (clr a b);rw [f] at t j p⊢;obtain ⟨D,C⟩:=eqx (k - 1);rw [C] at p;have N:IntKind.u64.wrap (k - 1)=(D:Int):=zv;have O:=aFc k D oM oM;clear f C t j;go_wp2_with fail;go_roundw
   case rel=>exact ⟨b+1,by omega,by go_num,by rw [p],by first | rfl | trivial⟩
   case measure=>exact zr
  .obtain rfl:b=c:=oM;have j:=y b;have v:=G;obtain ⟨k,f⟩:=eqx (clr a b);rw [f] at j v⊢;have g:=E.below u I;clear f;go_wp2_with fail;refine (aOT oM v g).mono ?_;rintro l T ⟨rfl,rfl⟩;go_wp2_with fail;go_ret;exact ⟨rfl,u⟩
def aMs {a} (c:a < 18446744073709551616):18446744073709551615 ^^^ a=18446744073709551615 - a:=by
 have e:18446744073709551615=2 ^ 64 - 1:=dC;have f:18446744073709551615 - a=2 ^ 64 -(a+1):=oM;rw [f,e];apply zDj;intro b;rw [zEh,Nat.testBit_two_pow_sub_one,zFm c];by_cases d:b < 64
 .simp [d]
 .have:a.testBit b=false:=zEp (zAl (show a < 2 ^ 64 from c) (zBp dC (show 64<=b by omega)));simp [d,this]
def aNK {a:Nat} (b:a < 18446744073709551616):bits .xor .u64 IntKind.u64.max (a:Int)=((gC a false:Nat):Int):=by
 have c:IntKind.u64.max=(18446744073709551615:Nat):=dC;rw [c,bits_xor_u64_nat _ _ oM b];congr 1;unfold gC;simp only [zEK,if_false];exact aMs b
def yW {gb l b p j c} (Q:Bk c gb 240 (dL l)) (w:l.length<=128) (a5:l[p]?=some b) (a4:(l.take p).count b=j) (P:TabW c):
 Calls prog 214 #[gb,(j:Int),.bool b] c λs az=>s=.returned (.int .i64 p)/\Below c.heap.size c az:=by
 have T:=(zAc.1 a5).1;have x:0 < c.heap.size:=P.pos;have V:=aEd b (pG l);have W:=aEd b (pA w);have am:=pG l;have an:=pA w;have g:=Q.cell 0;have I:=Q.cell 1;have J:=Q.cell 2;have aA:decide ((j:Int) < 0)=false:=zs
 have ax:p < l.length:=T;have a6:∀Y:Nat,(([Y].map λY=>bQ Y 64).sum)=bQ Y 64:=λY=>by simp
 obtain ⟨Z,K⟩:=eqx (gC (w0 l) b);obtain ⟨H,L⟩:=eqx (gC (w1 l) b);unfold dL at g I J;obtain ⟨a9,a0⟩:=eqx (w0 l);obtain ⟨aa,a1⟩:=eqx (w1 l);obtain ⟨au,ak⟩:=eqx l.length;have ao:=ix0 (a9:Int) (aa:Int);have ap:=ix1 (a9:Int) (aa:Int);rw [K] at V;rw [L] at W;rw [a0] at am K;rw [a1] at an L;rw [ak,a0,a1] at g I J;rw [ak] at ax;replace g:c.cell? gb=some (.int .i64 au):=g.trans rfl;have n:=Q.lt;have v:=g;have al:j<=p:=by rw [<-a4];exact zAk zBv (by rw [zAj];omega)
 have ag:=λt=>aN0 (b:=b) w a5 a4 t;have a2:=λt=>aN1 (b:=b) w a5 a4 t;rw [a0,K] at ag a2;rw [a1,L] at a2;obtain ⟨r,R⟩:=eqx (bQ Z 64);obtain ⟨ah,S⟩:=eqx (bQ H 64);obtain ⟨y,af⟩:=eqx (j - r);have a3:64<=p->r<=j/\H.testBit (p - 64)=true/\bQ H (p - 64)=y/\y < ah:=λt=>by obtain ⟨aC,aB,ai,aw,M,N,ad,aj⟩:=a2 t;rw [R] at ai;rw [S] at aj;subst ai;rw [af] at M;subst M;exact ⟨aw,N,ad,aj⟩
 have a8:b=false->bits .xor .u64 IntKind.u64.max (a9:Int)=(Z:Int)/\bits .xor .u64 IntKind.u64.max (aa:Int)=(H:Int):=λae=>by rw [<-K,<-L,ae];exact ⟨aNK am,aNK an⟩
 have a7:b=true->Z=a9/\H=aa:=λae=>by rw [<-K,<-L,ae];simp [gC]
 clear a2 a5 a4 Q K L a0 a1;cases b with
 | true=>
  replace a7:=a7 rfl;clear a8;go_enter func214,ntmps214;go_wp2_with fail;go_loopw [1,21] (λX F wr=>∃u:Nat,F=.int .i64 u/\((u=0/\X=.int .i64 j)∨(u=1/\64<=p/\X=.int .i64 y))/\Below c.heap.size c wr) (λ_ F _=>2 -(intOf F).toNat)
  case atStart=>exact ⟨0,rfl,.inl ⟨rfl,rfl⟩,kg _ _⟩
  case round=>
   obtain ⟨u,rfl,(⟨rfl,rfl⟩|⟨rfl,O,rfl⟩),d⟩:=hrel
   all_goals
    obtain ⟨aq,ar⟩:=a7;subst aq;subst ar
   .clear I J ap;have q:=d.size;have A:=(d.cell (p:=gb) n).trans g;clear g;go_wp2_with fail;refine (jM _ 1 1 _ [Z] _ (Rd.made _ _ 1 1 _ rfl) (by simpa using V) oM).mono ?_;rintro s z ⟨rfl,f⟩;have a:Below c.heap.size c z:=(by first |(rw [f];exact d.alloc q _)|(rw [<-f];exact d.alloc q _));rw [a6,R];have B:=(a.cell (p:=gb) n).trans v;clear f A;by_cases t:p < 64
    .obtain ⟨i,k,e⟩:=ag t;have m:=e;rw [R] at m;have D:j < r:=m;have C:IntKind.i64.wrap p=(p:Int):=zu;clear m;go_wp2_with fail;refine (jB V i k e (P.below a x) (zAl x a.size)).mono ?_;rintro s ab ⟨rfl,E⟩;have o:=a.trans (E.mono a.size);have ac:=(o.cell (p:=gb) n).trans v;clear B;go_wp2_with fail;go_ret;exact ⟨rfl,o⟩
    .obtain ⟨G,i,k,e⟩:=a3 oM;have D:¬j < r:=oM;have av:=zBy D;have C:IntKind.i64.wrap (j -r)=(y:Int):=(by have:=af;have M:=w;have N:=al;have ad:=T;rw [wI0];omega);clear G i k e;go_wp2_with fail;go_roundw
     case rel=>exact ⟨1,by go_num,.inr ⟨by first | rfl | trivial,by omega,by go_num⟩,a⟩
     case measure=>simp [intOf]
   .clear I J ao;have q:=d.size;have A:=(d.cell (p:=gb) n).trans g;clear g;go_wp2_with fail;refine (jM _ 1 1 _ [H] _ (Rd.made _ _ 1 1 _ rfl) (by simpa using W) oM).mono ?_;rintro s z ⟨rfl,f⟩;have a:Below c.heap.size c z:=(by first |(rw [f];exact d.alloc q _)|(rw [<-f];exact d.alloc q _));rw [a6,S];have B:=(a.cell (p:=gb) n).trans v;clear f A;obtain ⟨G,i,k,e⟩:=a3 O;have m:=e;rw [<-S] at e;have D:y < ah:=m;have C:IntKind.i64.wrap (64+(p - 64:Nat))=(p:Int):=(by have M:=w;have N:=T;rw [wI0];omega);obtain ⟨ay,U⟩:=eqx (p - 64);rw [U] at C i k;clear G m U O;go_wp2_with fail;refine (jB W i k e (P.below a x) (zAl x a.size)).mono ?_;rintro s ab ⟨rfl,E⟩;have o:=a.trans (E.mono a.size);have ac:=(o.cell (p:=gb) n).trans v;clear B;go_wp2_with fail;go_ret;exact ⟨rfl,o⟩
 | false=>
  replace a8:=a8 rfl;clear a7;go_enter func214,ntmps214;go_wp2_with fail;go_loopw [1,21] (λX F wr=>∃u:Nat,F=.int .i64 u/\((u=0/\X=.int .i64 j)∨(u=1/\64<=p/\X=.int .i64 y))/\Below c.heap.size c wr) (λ_ F _=>2 -(intOf F).toNat)
  case atStart=>exact ⟨0,rfl,.inl ⟨rfl,rfl⟩,kg _ _⟩
  case round=>
   obtain ⟨u,rfl,(⟨rfl,rfl⟩|⟨rfl,O,rfl⟩),d⟩:=hrel
   all_goals
    obtain ⟨aq,ar⟩:=a8
   .clear I J ap;have q:=d.size;have A:=(d.cell (p:=gb) n).trans g;clear g;go_wp2_with fail;refine (jM _ 1 1 _ [Z] _ (Rd.made _ _ 1 1 _ rfl) (by simpa using V) oM).mono ?_;rintro s z ⟨rfl,f⟩;have a:Below c.heap.size c z:=(by first |(rw [f];exact d.alloc q _)|(rw [<-f];exact d.alloc q _));rw [a6,R];have B:=(a.cell (p:=gb) n).trans v;clear f A;by_cases t:p < 64
    .obtain ⟨i,k,e⟩:=ag t;have m:=e;rw [R] at m;have D:j < r:=m;have C:IntKind.i64.wrap p=(p:Int):=zu;clear m;go_wp2_with fail;refine (jB V i k e (P.below a x) (zAl x a.size)).mono ?_;rintro s ab ⟨rfl,E⟩;have o:=a.trans (E.mono a.size);have ac:=(o.cell (p:=gb) n).trans v;clear B;go_wp2_with fail;go_ret;exact ⟨rfl,o⟩
    .obtain ⟨G,i,k,e⟩:=a3 oM;have D:¬j < r:=oM;have av:=zBy D;have C:IntKind.i64.wrap (j -r)=(y:Int):=(by have:=af;have M:=w;have N:=al;have ad:=T;rw [wI0];omega);clear G i k e;go_wp2_with fail;go_roundw
     case rel=>exact ⟨1,by go_num,.inr ⟨by first | rfl | trivial,by omega,by go_num⟩,a⟩
     case measure=>simp [intOf]
   .clear I J ao;have q:=d.size;have A:=(d.cell (p:=gb) n).trans g;clear g;go_wp2_with fail;refine (jM _ 1 1 _ [H] _ (Rd.made _ _ 1 1 _ rfl) (by simpa using W) oM).mono ?_;rintro s z ⟨rfl,f⟩;have a:Below c.heap.size c z:=(by first |(rw [f];exact d.alloc q _)|(rw [<-f];exact d.alloc q _));rw [a6,S];have B:=(a.cell (p:=gb) n).trans v;clear f A;obtain ⟨G,i,k,e⟩:=a3 O;have m:=e;rw [<-S] at e;have D:y < ah:=m;have C:IntKind.i64.wrap (64+(p - 64:Nat))=(p:Int):=(by have M:=w;have N:=T;rw [wI0];omega);obtain ⟨ay,U⟩:=eqx (p - 64);rw [U] at C i k;clear G m U O;go_wp2_with fail;refine (jB W i k e (P.below a x) (zAl x a.size)).mono ?_;rintro s ab ⟨rfl,E⟩;have o:=a.trans (E.mono a.size);have ac:=(o.cell (p:=gb) n).trans v;clear B;go_wp2_with fail;go_ret;exact ⟨rfl,o⟩
def aHb (b:Nat) (a:Array Value):Value->World->Prop:=λ_ c=>Bk c b 240 a
def aAI (c b):Stb (aHb c b):=λ_ _ _ a d=>kf a d (Bk.lt a)
def qJ (a:Int) (b c:Nat):Array Value:=#[.int .i64 a,.int .u64 b,.int .u64 c]
def aAL (d b c a) (e:a < 2):(qJ d b c)[1+a]?=some (.int .u64 ((if a=0 then b else c):Nat)):=by
 obtain rfl | rfl:a=0∨a=1:=oM;rfl;rfl
def aAK (c:Int) (d e b a:Nat) (f:a < 2):(qJ c d e).setIfInBounds (1+a) (.int .u64 b)=qJ c (if a=0 then b else d) (if a=0 then e else b):=by
 obtain rfl | rfl:a=0∨a=1:=oM;rfl;rfl
def aCs {e a g c d} (f:Bk e a 240 (qJ g c d)) (b):Bk (e.setCell a (.int .i64 b)) a 240 (qJ b c d):=f.set 0 _
structure InsI (l l':List Bool) (k:Nat) (b:Bool) (i a:Nat) (bb:Bool) (u0 u1:Nat):Prop where
 dw:i=0->k < 64/\a=k/\bb=b/\u0=w0 l/\u1=w1 l
 dv:i=1->a < 64/\u0=w0 l'/\uF u1 a bb=w1 l'/\u1 < 18446744073709551616
 du:i=2->u0=w0 l'/\u1=w1 l'
 le:i<=2
def kK {gb l} (c b) {w} (Y:Bk w gb 240 (dL l)) (an:l.length<=127) (H:c<=l.length):
 Calls prog 248 #[gb,(c:Int),.bool b] w λn a5=>n=.returned (.int .i64 0)/\Bk a5 gb 240 (dL (aT l c b))/\Keep (λb=>b=gb) w a5:=by
 obtain ⟨i,R⟩:=eqx l.length;have a2:(aT l c b).length=i+1:=by rw [cM _ _ H,R]
 have P:Bk w gb 240 (qJ (i:Int) (w0 l) (w1 l)):=by rw [<-R];exact Y
 have ai:∀J,Bk J gb 240 (qJ ((i+1:Nat):Int) (w0 (aT l c b)) (w1 (aT l c b)))->Bk J gb 240 (dL (aT l c b)):=λJ q=>by unfold dL;rw [a2];exact q
 have W:=pG l;have M:=pA (l:=l) oM;have ap:∃I A:Nat,(c:Int)/ 64=I/\(c:Int)% 64=A/\InsI l (aT l c b) c b I A b (w0 l) (w1 l):=by by_cases a6:c < 64;exact ⟨0,c,by omega,by omega,λ_=>⟨a6,rfl,rfl,rfl,rfl⟩,λn=>by omega,λn=>by omega,by omega⟩;obtain ⟨L,D⟩:=aN6 (l:=l) (k:=c) b H oM oM;exact ⟨1,c - 64,by omega,by omega,λn=>by omega,λ_=>⟨by omega,L.symm,D.symm,M⟩,λn=>by omega,by omega⟩
 have aq:∀a o f d e,a < 2->InsI l (aT l c b) c b a o f d e->o < 64/\(if a=0 then d else e) < 18446744073709551616/\InsI l (aT l c b) c b (a+1) 0 ((if a=0 then d else e).testBit 63) (if a=0 then uF d o f else d) (if a=0 then e else uF e o f):=by intro a o f d e aE q;obtain rfl | rfl:a=0∨a=1:=oM;obtain ⟨C,rfl,rfl,rfl,rfl⟩:=q.dw rfl;obtain ⟨L,D⟩:=aN5 (l:=l) (k:=o) f H oM C;have ah:(w0 l).testBit 63=l.getD 63 false:=(by rw [kI];simp);simp only [if_true,ah];exact ⟨C,W,λn=>by omega,λ_=>⟨by omega,L.symm,D.symm,M⟩,λn=>by omega,by omega⟩;obtain ⟨C,a7,a8,a9⟩:=q.dv rfl;simp only [show ¬((1:Nat)=0) by omega,if_false];exact ⟨C,a9,λn=>by omega,λn=>by omega,λ_=>⟨a7,a8⟩,by omega⟩
 obtain ⟨I,A,aF,aA,af⟩:=ap;have al:¬((c:Int) > i):=oM;have ak:decide ((c:Int) < 0)=false:=zs
 have aH:((i:Int)==128)=false:=by rw [zCb];omega
 have B:w.cell? gb=some (.int .i64 i):=(P.cell 0).trans rfl;have aC:=P.lt;have aI:i<=127:=oM;clear Y W M a2 R an H;go_enter func248,ntmps248;go_wp2_with fail;clear B ak al;go_loopw [2,7,8] (λg j V wr=>∃(a o:Nat) (f:Bool) (d e:Nat),g=.bool f/\j=.int .i64 o/\V=.int .i64 a/\InsI l (aT l c b) c b a o f d e/\Bk wr gb 240 (qJ (i:Int) d e)/\Keep (λb=>b=gb) w wr) (λ_ _ V _=>2 -(intOf V).toNat)
 case atStart=>exact ⟨I,A,b,_,_,rfl,rfl,rfl,af,P,ke _ _⟩
 case round=>
  obtain ⟨a,r,f,d,e,rfl,rfl,rfl,t,s,a1⟩:=hrel;by_cases Q:a < 2
  .obtain ⟨ao,a4,N⟩:=aq a r f d e Q t;have G:=aAL (i:Int) d e a Q;have a3:=λj=>aAK (i:Int) d e j a Q;obtain ⟨g,y⟩:∃g,(if a=0 then d else e)=g:=⟨_,rfl⟩;obtain ⟨j,S⟩:=eqx (uF g r f);obtain ⟨K,a0⟩:=eqx (qJ (i:Int) d e)
   have ag:InsI l (aT l c b) c b (a+1) 0 (g.testBit 63) (if a=0 then j else d) (if a=0 then e else j):=by
    have ad:(if a=0 then uF d r f else d)=if a=0 then j else d:=by
     split
     .rw [<-S,<-y,zBx (by assumption)]
     rfl
    have ae:(if a=0 then e else uF e r f)=if a=0 then e else j:=by
     split;rfl
     .rw [<-S,<-y,zBw (by assumption)]
    rw [y,ad,ae] at N;exact N
   rw [y] at G a4;rw [a0] at G a3 s;have aG:(a:Int) < 2:=oM;clear t N y a0;go_wp2_with fail;refine wp_region_any kR<|bM (pre:=(λw1=>Bk w1 gb 240 K)) (pJ:=(aHb gb (K.setIfInBounds (1+a) (.int .u64 j)))) [38,39,40,41,42,43,44,45,46,47,48,37,49,50,51,52,53,2] (λb=>b=gb) 17 [7,17] [is gb,is (a:Int),is gb,is (a:Int),is gb,is (.pointer (some ⟨gb,1,none⟩)),is (.pointer (some ⟨gb,1+a,none⟩)),is (.int .u64 g),is (r:Int),is (.bool f),is (.tuple #[.int .u64 j,.bool (g.testBit 63)]),is (.tuple #[.int .u64 j,.bool (g.testBit 63)]),is (.int .u64 j),is (.bool (g.testBit 63)),is gb,is (.pointer (some ⟨gb,1,none⟩)),is (.pointer (some ⟨gb,1+a,none⟩)),cO,is (.bool (g.testBit 63))] _ rfl kR kR (s) (λw1 aK q _ aj=>kf q aj q.lt) (aAI _ _) tA1 ?_ ?_
   .refine aL<|pH3 0 (.pointer (some gb))<|pH3 8 (.int .i64 a)<|pH3 0 (.pointer (some gb))<|pH3 8 (.int .i64 a)<|pV3 2 40<|pV3 4 42<|pW3 5 43 3 41<|sC3 (λ_ z _ O _ _ _ m _ _ _ u=>?_) ?_
    .have v:=O rfl;have au:_=_:=m 6 44 kR rfl;have B:z.cell? ⟨gb,1+a,none⟩=some (.int .u64 g):=(v.cell (1+a)).trans G;go_simp;exact kq u rfl
    refine pH3 7 (.int .i64 r)<|pH3 2 (.bool f)<|sC3 (λ_ z _ _ _ _ _ m _ _ _ u=>?_) ?_
    .have av:_=_:=m 7 45 kR rfl;have aw:_=_:=m 8 46 kR rfl;have ax:_=_:=m 9 47 kR rfl;go_simp;refine (aMr (x:=g) (k:=r) f a4 ao z).mono ?_;rintro n aM ⟨rfl,rfl⟩;rw [S];exact kq u rfl
    refine pV3 10 48<|pV3 11 37<|pV3 11 37<|pV3 0 38<|pV3 14 51<|pW3 15 52 1 39<|sC3 (λ_ z _ O _ _ _ m _ _ _ u=>?_) ?_
    .have v:=O rfl;have az:_=_:=m 16 53 kR rfl;have ay:_=_:=m 12 49 kR rfl;have B:z.cell? ⟨gb,1+a,none⟩=some (.int .u64 g):=(v.cell (1+a)).trans G;have ac:=v.frozen (1+a);go_simp;exact u (.bool true) _ (aW (ka (F:=λb=>b=gb) (ke _ _) (p:=⟨gb,1+a,none⟩) (.inl rfl) _)) (v.set (1+a) _)
    refine pV3 13 50 ?_;exact aB
   .intro ab U E m X;replace E:Keep (λb=>b=gb) wr U:=kD E;have aa:ab (.tmp 2)=.bool (g.testBit 63):=m 18 2 rfl;obtain ⟨aJ,T⟩:∃ar,(aHb gb (K.setIfInBounds (1+a) (.int .u64 j))) ar U:=X 17 dC;simp only [zqq];rw [aa];clear m X;have Z:Bk U gb 240 _:=T;rw [a3] at Z;have am:=a1.trans E;clear T E;go_wp2_with fail;go_roundw
    case rel=>exact ⟨a+1,0,_,_,_,rfl,rfl,by go_num,ag,Z,am⟩
    case measure=>exact zr
  .obtain rfl:a=2:=(zj t.le);obtain ⟨rfl,rfl⟩:=t.du rfl;have B:wr.cell? gb=some (.int .i64 i):=(s.cell 0).trans rfl;have ac:=s.frozen 0;have aD:=s.lt;clear t;have D:IntKind.i64.wrap (i+1)=((i+1:Nat):Int):=zu;go_wp2_with fail;go_ret;exact ⟨rfl,ai _ (aCs s _),ka (F:=λb=>b=gb) a1 (p:=gb) (.inl rfl) _⟩
def yX {c b d E} (ae:Bk E c 240 (dL b)) (X:b.length<=128) (T:d < b.length):
 Calls prog 241 #[c,(d:Int)] E λC aH=>C=.returned (.tuple #[.bool (b.getD d false),o0])/\Bk aH c 240 (dL (aK b d))/\Keep (λi=>i=c) E aH:=by
 have ay:=vU (gb:=c) (l:=b) (k:=d) (w:=E) ae T;obtain ⟨j,ai⟩:=eqx b.length;have b1:(aK b d).length+1=j:=by rw [cJ T,ai]
 have af:Bk E c 240 (qJ (j:Int) (w0 b) (w1 b)):=by rw [<-ai];exact ae
 have aw:∀a7,Bk a7 c 240 (qJ ((j:Int) - 1) (w0 (aK b d)) (w1 (aK b d)))->Bk a7 c 240 (dL (aK b d)):=λa7 I=>by unfold dL;rw [show (((aK b d).length:Nat):Int)=(j:Int) - 1 by omega];exact I
 have ar:=pG b;have au:=pA (l:=b) X;obtain ⟨v,f,bn,aS,bp,aT,b0⟩:∃v f:Nat,(d:Int)/ 64=v/\(d:Int)% 64=f/\v < 2/\f < 64/\d=64*v+f:=⟨d / 64,d % 64,by omega,by omega,by omega,by omega,by omega⟩;have aF:v=0->w0 (aK b d)=qG (w0 b) f ((w1 b).testBit 0)/\w1 (aK b d)=qG (w1 b) 0 false/\(w0 b).testBit f=b.getD d false:=λC=>by have A:d=f:=oM;have o:=aOv (l:=b) (k:=d) T X oM;rw [iU,zBq,<-A];refine ⟨o.1,o.2,?_⟩;rw [kI,zBz oM,zDO]
 have az:v=1->w0 (aK b d)=w0 b/\w1 (aK b d)=qG (w1 b) f false/\(w1 b).testBit f=b.getD d false:=λC=>by have A:d - 64=f:=oM;have o:=cut_hi (l:=b) (k:=d) T X oM;rw [A] at o;refine ⟨o.1,o.2,?_⟩;rw [iU];congr 1;omega
 have aX:=af.lt;have br:j<=128:=oM;have aU:0 < qG 0 0 true:=dC;obtain ⟨ao,aM,aP,aN,aI,an⟩:=hqq6 af aw aF az ar au;clear ae af aw ar au aF az b1 ai X T aU b0;go_enter func241,ntmps241;go_wp2_with fail;refine ay.mono ?_;rintro C b7 ⟨rfl,ag⟩;have av:=ao.below ag aX;have aE:Keep (λi=>i=c) E b7:=kF ag;obtain ⟨aJ,aO⟩:=hqq2 av aE;clear ay ag av aE ao;go_wp2_with fail;go_loopw [7,8] (λe am wr=>∃(a y:Nat) (z:Bool),e=.bool z/\am=.int .i64 a/\v<=a/\a < 2/\(a=1->z=false/\y=w1 b)/\(a=0->z=(w1 b).testBit 0/\y=qG (w1 b) 0 false)/\Bk wr c 240 (qJ (j:Int) (w0 b) y)/\Keep (λi=>i=c) E wr) (λ_ am _=>(intOf am).toNat)
 case atStart=>exact ⟨1,w1 b,false,rfl,rfl,by omega,by omega,λ_=>⟨rfl,rfl⟩,λC=>by omega,aJ,aO⟩
 case round=>
  obtain ⟨a,y,z,rfl,rfl,bo,aC,o,ad,M,W⟩:=hrel;by_cases ax:v < a
  .obtain rfl:a=1:=oM;obtain ⟨rfl,rfl⟩:=o rfl;obtain rfl:v=0:=oM;obtain ⟨a,aA⟩:∃a,a=1:=⟨1,rfl⟩;have n:=aAL (j:Int) (w0 b) (w1 b) a oM;have s:=λm=>aAK (j:Int) (w0 b) (w1 b) m a oM;rw [zBw oM] at n;obtain ⟨e,Y⟩:=eqx (w1 b);obtain ⟨m,K⟩:=eqx (qG e 0 false);obtain ⟨H,S⟩:=eqx (qJ (j:Int) (w0 b) (w1 b));have Z:=an.out;rw [S] at n s M;rw [Y] at n Z;have aG:qG (w1 b) 0 false=m:=(by rw [Y];exact K);obtain ⟨N,aj⟩:=eqx (e.testBit 0);have R:(w1 b).testBit 0=N:=(by rw [Y];exact aj);have aQ:=lhd aj;have aZ:(a:Int) < 2:=oM;obtain ⟨O,a5,a2,a6,aR,a0,a3⟩:=hqq7 n s M K aG R W;have bq:a < 2:=oM;have aD:¬a=0:=oM;have aY:¬(a:Int)<=0:=oM;rw [show ((1:Nat):Int)=(a:Int) by omega];have ap:=lhd aA;have bj:¬(a:Int)<=0:=aY;have bk:(a:Int) > 0:=oM;clear M W n s Y K aG S o ad R aA ax aj;go_wp2_with fail;refine wp_region_any kR<|bM (pre:=(λw1=>Bk w1 c 240 H)) (pJ:=(aHb c (H.setIfInBounds (1+a) (.int .u64 m)))) [22,23,24,25,26,27,28,29,30,31,21,32,33,34,35,36,7] (λi=>i=c) 16 [7,16] [is c,is (a:Int),is c,is (a:Int),is c,is (.pointer (some ⟨c,1,none⟩)),is (.pointer (some ⟨c,1+a,none⟩)),is (.int .u64 e),is (.bool false),is (.tuple #[.int .u64 m,.bool N]),is (.tuple #[.int .u64 m,.bool N]),is (.int .u64 m),is (.bool N),is c,is (.pointer (some ⟨c,1,none⟩)),is (.pointer (some ⟨c,1+a,none⟩)),cO,is (.bool N)] _ rfl kR kR (a2) (λw1 b5 I _ ah=>kf I ah I.lt) (aAI _ _) tA1 ?_ ?_
   .refine aL<|pH3 0 (.pointer (some c))<|pH3 8 (.int .i64 a)<|pH3 0 (.pointer (some c))<|pH3 8 (.int .i64 a)<|pV3 2 24<|pV3 4 26<|pW3 5 27 3 25<|sC3 (λ_ t _ J _ _ _ g _ _ _ q=>?_) ?_
    .have r:=J rfl;have b8:_=_:=g 6 28 kR rfl;have V:t.cell? ⟨c,1+a,none⟩=some (.int .u64 e):=(r.cell (1+a)).trans O;go_simp;exact kq q rfl
    refine pH3 7 (.bool false)<|sC3 (λ_ t _ _ _ _ _ g _ _ _ q=>?_) ?_
    .have b9:_=_:=g 7 29 kR rfl;have ba:_=_:=g 8 30 kR rfl;go_simp;refine (aFV (x:=e) 0 false Z oM t).mono ?_;rintro C b6 ⟨rfl,rfl⟩;rw [a6.out,aQ.out];exact kq q rfl
    refine pV3 9 31<|pV3 10 21<|pV3 10 21<|pV3 0 22<|pV3 13 34<|pW3 14 35 1 23<|sC3 (λ_ t _ J _ _ _ g _ _ _ q=>?_) ?_
    .have r:=J rfl;have bc:_=_:=g 15 36 kR rfl;have bb:_=_:=g 11 32 kR rfl;have V:t.cell? ⟨c,1+a,none⟩=some (.int .u64 e):=(r.cell (1+a)).trans O;have aq:=r.frozen (1+a);go_simp;exact q (.bool true) _ (aW (ka (F:=λi=>i=c) (ke _ _) (p:=⟨c,1+a,none⟩) (.inl rfl) _)) (r.set (1+a) _)
    refine pV3 12 33 ?_;exact aB
   .intro ac G B g Q;replace B:Keep (λi=>i=c) wr G:=kD B;have ab:ac (.tmp 7)=.bool N:=g 17 7 rfl;obtain ⟨b4,L⟩:∃al,(aHb c (H.setIfInBounds (1+a) (.int .u64 m))) al G:=Q 16 dC;simp only [zqq];rw [ab];clear g Q;have u:Bk G c 240 _:=L;rw [a5.out,zBw aD,zBw aD] at u;have U:=a3.trans B;obtain ⟨a1,a4⟩:=hqq2 u U;have P:IntKind.i64.wrap (a - 1)=((0:Nat):Int):=(by have:=ap.out;rw [wI0];omega);clear u U L B;go_wp2_with fail;go_roundw
    case rel=>exact ⟨0,_,_,rfl,rfl,by omega,by omega,λC=>by omega,λ_=>⟨a0.symm,aR.symm⟩,a1,a4⟩
    case measure=>have:=ap.out;simp [intOf];omega
  .obtain rfl:a=v:=oM
   have aV:∃e:Nat,(qJ (j:Int) (w0 b) y)[1+a]?=some (.int .u64 e)/\e < 18446744073709551616/\(qJ (j:Int) (w0 b) y).setIfInBounds (1+a) (.int .u64 (qG e f z:Nat))=qJ (j:Int) (w0 (aK b d)) (w1 (aK b d))/\e.testBit f=b.getD d false:=by
    have n:=aAL (j:Int) (w0 b) y a aC;have s:=λm=>aAK (j:Int) (w0 b) y m a aC;obtain D | D:a=0∨a=1:=oM
    .obtain ⟨P,A⟩:=ad D;obtain ⟨a8,a9,aa⟩:=aP D;rw [zBx D] at n;refine ⟨w0 b,n,aI,?_,aa⟩;rw [s,zBx D,zBx D,a8,a9,P,A]
    .obtain ⟨P,A⟩:=o D;obtain ⟨a8,a9,aa⟩:=aN D;have ak:¬a=0:=oM;rw [zBw ak] at n;refine ⟨y,n,by rw [A];exact an,?_,by rw [A];exact aa⟩;rw [s,zBw ak,zBw ak,a8,a9,P,A]
   obtain ⟨e,n,Z,s,R⟩:=aV;obtain ⟨bu,b3⟩:=eqx f;subst b3;have b2:=aT;obtain ⟨m,K⟩:=eqx (qG e f z);obtain ⟨H,S⟩:=eqx (qJ (j:Int) (w0 b) y);rw [K] at s;rw [S] at n s M;obtain ⟨O,a5,a2,a6,a0,a3⟩:=hqq6 n s M K R W;have bl:¬(a:Int) > a:=oM;have aZ:(a:Int) < 2:=oM;have bt:IntKind.i64.wrap a=(a:Int):=zu;have bs:((d:Int)).tmod 64=(f:Int):=(by rw [zDA oM];exact aS);clear M W n s K S o ad R ax;go_wp2_with fail;refine wp_region_any kR<|bM (pre:=(λw1=>Bk w1 c 240 H)) (pJ:=(aHb c (H.setIfInBounds (1+a) (.int .u64 m)))) [38,39,40,41,42,43,44,45,46,47,48,49,50,51,37,52,53,54,55,56,7] (λi=>i=c) 20 [9,20] [is c,is (d:Int),is (a:Int),is c,is (d:Int),is (a:Int),is c,is (.pointer (some ⟨c,1,none⟩)),is (.pointer (some ⟨c,1+a,none⟩)),is (.int .u64 e),is (d:Int),is (f:Int),is (.bool z),is (.tuple #[.int .u64 m,.bool (e.testBit f)]),is (.tuple #[.int .u64 m,.bool (e.testBit f)]),is (.int .u64 m),is (.bool (e.testBit f)),is c,is (.pointer (some ⟨c,1,none⟩)),is (.pointer (some ⟨c,1+a,none⟩)),cO,is (.bool (e.testBit f))] _ rfl kR kR (a2) (λw1 b5 I _ ah=>kf I ah I.lt) (aAI _ _) tA1 ?_ ?_
   .refine aL<|pH3 0 (.pointer (some c))<|pH3 1 (.int .i64 d)<|pV3 1 39<|pH3 0 (.pointer (some c))<|pH3 1 (.int .i64 d)<|pV3 4 42<|pV3 3 41<|pV3 6 44<|pW3 7 45 5 43<|sC3 (λ_ t _ J _ _ _ g _ _ _ q=>?_) ?_
    .have r:=J rfl;have bd:_=_:=g 8 46 kR rfl;have V:t.cell? ⟨c,1+a,none⟩=some (.int .u64 e):=(r.cell (1+a)).trans O;go_simp;exact kq q rfl
    refine pH3 1 (.int .i64 d)<|pV3 10 48<|pH3 7 (.bool z)<|sC3 (λ_ t _ _ _ _ _ g _ _ _ q=>?_) ?_
    .have be:_=_:=g 9 47 kR rfl;have bf:_=_:=g 11 49 kR rfl;have bg:_=_:=g 12 50 kR rfl;go_simp;refine (aFV (x:=e) f z Z b2 t).mono ?_;rintro C b6 ⟨rfl,rfl⟩;rw [a6.out];exact kq q rfl
    refine pV3 13 51<|pV3 14 37<|pV3 14 37<|pV3 0 38<|pV3 17 54<|pW3 18 55 2 40<|sC3 (λ_ t _ J _ _ _ g _ _ _ q=>?_) ?_
    .have r:=J rfl;have bi:_=_:=g 19 56 kR rfl;have bh:_=_:=g 15 52 kR rfl;have V:t.cell? ⟨c,1+a,none⟩=some (.int .u64 e):=(r.cell (1+a)).trans O;have aq:=r.frozen (1+a);go_simp;exact q (.bool true) _ (aW (ka (F:=λi=>i=c) (ke _ _) (p:=⟨c,1+a,none⟩) (.inl rfl) _)) (r.set (1+a) _)
    refine pV3 16 53 ?_;exact aB
   .intro ac G B g Q;replace B:Keep (λi=>i=c) wr G:=kD B;have ab:ac (.tmp 7)=.bool (e.testBit f):=g 21 7 rfl;obtain ⟨b4,L⟩:∃al,(aHb c (H.setIfInBounds (1+a) (.int .u64 m))) al G:=Q 20 dC;simp only [zqq];rw [ab];clear g Q;have u:Bk G c 240 _:=L;rw [a5.out] at u;have U:=a3.trans B;have V:G.cell? c=some (.int .i64 j):=(u.cell 0).trans rfl;have aq:=u.frozen 0;have bm:=u.lt;obtain ⟨a1,a4⟩:=hqq2 u U;have P:IntKind.i64.wrap (j - 1)=(j:Int) - 1:=zu;rw [a0.out];clear u U L B;go_wp2_with fail;go_ret2;exact ⟨rfl,aM _ (aCs a1 _),ka (F:=λi=>i=c) a4 (p:=c) (.inl rfl) _⟩
end Go.Proofs.YtlghmcogeipojaaGreatDoor
