/- Lemmas of the walk. Conditions: each its own. -/
import Derived.Test.YtknjfpcdhdmghaaGreatDoorPt0
set_option linter.all false
set_option maxRecDepth 100000
set_option maxHeartbeats 1000000
namespace Go.Proofs.YtknjfpcdhdmghaaGreatDoor
open Tryz
section
open Go.RowKit Go
section
variable {P : Program} {ops : Array Oper} {Q : Exit -> Act -> World -> Prop} {md : Region.Mode}
def aQ (p) {S:World->World->Prop} {V} (f) {d} (t:ops.toList.filterMap (·.dst)=p) (v:kL md ops f.tmps.size=true) (x:S d d) (A:∀a c,S d a->S a c->S d c) (y:∀b m a c,V b m a->S a c->V b m c) (z:∀j l,ops[j]?=some l->eC P ops Q md S V f d j l) (u:∀(i:Operand->Value) a,S d a->(∀b g,((ops[b]?).bind (·.dst))=some g->V b (i (.tmp g)) a)->Q .normal (dJ i p f) a):
 wpAny P md ops Q ops.size (Array.replicate ops.size false) f d:=by
 refine mP (n:=ops.size) (C:=λ_ a=>S d a) (S:=λ_ _=>S) (U:=λ_ _=>True) (V:=λb _=>V b) (by rw [zR];exact t) nL v (λk b E s=>absurd s oM) x (λ_=>trivial) (λ_ _ _ _ _ a c _ _ _ _ e k=>A a c e k) (λ_ _ _ _ _ _ _ _ _ _ _ _=>trivial) (λ_ _ _ _ _ _ _ _ e=>e) (λb _ _ _ _ m _ a c _ _ _ _ _ _ e _ k=>y b m a c e k) (λj l _ w r a o _=>z j l w r a o) λi a D o B _=>qD rfl (u i a o λb g q=>B b g (aGX q) q)
end
end
section
def aT {α:Type} (b:List α) (a:Nat) (c:α):List α:=b.take a++c::b.drop a
def aK {α:Type} (b:List α) (a:Nat):List α:=b.take a++b.drop (a+1)
def cM {α:Type} (a:List α) {b} (c:α) (d:b<=a.length):(aT a b c).length=a.length+1:=by
 unfold aT;rw [zAi,zAj,zCg,zAw];omega
def cJ {α:Type} {l:List α} {k} (a:k < l.length):(aK l k).length+1=l.length:=by
 unfold aK;rw [zAi,zAj,zAw];omega
def jX {α:Type} (c:List α) {a} (g:α) (j:a<=c.length) (b):(aT c a g)[b]?=if b < a then c[b]? else if b=a then some g else c[b - 1]?:=by
 unfold aT;have i:(c.take a).length=a:=by rw [zAj];omega
 by_cases e:b < a
 .rw [zBx e,zAn oM,zBs,zBx e]
 .rw [zBw e,zAo oM,i];by_cases f:b=a;subst f;rw [zBx rfl,zDK];rfl
  .rw [zBw f];obtain ⟨d,rfl⟩:∃d,b=a+d+1:=⟨b - a - 1,by omega⟩;rw [show a+d+1 - a=d+1 by omega,zCf,zBt];congr 1
def eQ {α:Type} {c:List α} {a} (f:a < c.length) (b):(aK c a)[b]?=if b < a then c[b]? else c[b+1]?:=by
 unfold aK;have e:(c.take a).length=a:=by rw [zAj];omega
 by_cases d:b < a
 .rw [zBx d,zAn oM,zBs,zBx d]
 rw [zBw d,zAo oM,e,zBt];congr 1;omega
def qB {α β:Type} (a:α->β) (c:List α) (b) (d:α):(aT c b d).map a=aT (c.map a) b (a d):=by simp [aT]
def uY {α β:Type} (a:α->β) (c:List α) (b):(aK c b).map a=aK (c.map a) b:=by simp [aK]
def fU {α:Type} (a:List α) (c) (b:α):(aT a c b).Perm (b::a):=by
 unfold aT;exact (zFD).trans (by rw [zAu])
def fH {α:Type} {a:List α} {b} {c:α} (e:a[b]?=some c):(c::aK a b).Perm a:=by
 obtain ⟨f,g⟩:=zAc.1 e;have d:a=a.take b++c::a.drop (b+1):=by rw [<-g,<-zAx f,zAu]
 unfold aK;exact (zFD.symm).trans (by rw [<-d])
def rN {b c} (d) (e:c<=b.length) (a):(aT b c d).getD a false=if a < c then b.getD a false else if a=c then d else b.getD (a - 1) false:=by
 rw [zAb,jX b d e];split
 .rw [zAb]
 .split;rfl
  .rw [zAb]
def rU {b c} (d:c < b.length) (a):(aK b c).getD a false=if a < c then b.getD a false else b.getD (a+1) false:=by
 rw [zAb,eQ d];split
 .rw [zAb]
 .rw [zAb]
def aIl (d:List Bool) (c b:Nat):(d.take c).getD b false=(decide (b < c)&&d.getD b false):=by
 rw [zAb,zBs];by_cases a:b < c
 .rw [zBx a,zAb];simp [a]
 .rw [zBw a];simp [a]
def aJh (b:List Bool) (c a:Nat):(b.drop c).getD a false=b.getD (c+a) false:=by
 rw [zAb,zBt,zAb]
inductive Tr where
 | lf (b:List Bool)
 | nd (l r:Tr)
namespace Tr
def bits:Tr->List Bool
 | lf a=>a
 | nd b c=>b.bits++c.bits
def ht:Tr->Nat
 | lf _=>0
 | nd a b=>max a.ht b.ht+1
def lv:Tr->Nat
 | lf _=>1
 | nd a b=>a.lv+b.lv
def Avl:Tr->Prop
 | lf _=>True
 | nd a b=>a.Avl/\b.Avl/\a.ht<=b.ht+1/\b.ht<=a.ht+1
def Full:Tr->Prop
 | lf a=>32<=a.length/\a.length<=128
 | nd b c=>b.Full/\c.Full
def Ok:Tr->Prop
 | lf a=>1<=a.length/\a.length<=128
 | nd b c=>(nd b c).Avl/\(nd b c).Full
def aCU:Tr->Tr->Tr
 | nd b c,a=>nd b (nd c a)
 | l,a=>nd l a
def aCV:Tr->Tr->Tr
 | a,nd b c=>nd (nd a b) c
 | a,r=>nd a r
def balL:Tr->Tr
 | nd a b=>if a.ht < b.ht then aCV a b else nd a b
 | l=>l
def balR:Tr->Tr
 | nd a b=>if b.ht < a.ht then aCU a b else nd a b
 | l=>l
def bal (a b:Tr):Tr:=if b.ht+1 < a.ht then aCU (balL a) b else if a.ht+1 < b.ht then aCV a (balR b) else nd a b
def ins:Tr->Nat->Bool->Tr
 | lf b,a,c=>if b.length=128 then (if 64 < a then nd (lf (b.take 64)) (lf (aT (b.drop 64) (a - 64) c)) else nd (lf (aT (b.take 64) a c)) (lf (b.drop 64))) else lf (aT b a c)
 | nd d e,a,c=>if a<=d.bits.length then bal (d.ins a c) e else bal d (e.ins (a - d.bits.length) c)
def mend:Tr->Tr->Tr
 | lf a,lf b=>if a.length < 32∨b.length < 32 then (if a.length+b.length<=128 then lf (a++b) else nd (lf ((a++b).take ((a.length+b.length)/ 2))) (lf ((a++b).drop ((a.length+b.length)/ 2)))) else nd (lf a) (lf b)
 | lf a,nd (lf b) c=>if a.length < 32 then (if a.length+b.length<=128 then nd (lf (a++b)) c else nd (lf ((a++b).take ((a.length+b.length)/ 2))) (nd (lf ((a++b).drop ((a.length+b.length)/ 2))) c)) else nd (lf a) (nd (lf b) c)
 | nd c (lf a),lf b=>if b.length < 32 then (if a.length+b.length<=128 then nd c (lf (a++b)) else nd (nd c (lf ((a++b).take ((a.length+b.length)/ 2)))) (lf ((a++b).drop ((a.length+b.length)/ 2)))) else nd (nd c (lf a)) (lf b)
 | l,r=>nd l r
def rebal:Tr->Tr
 | lf a=>lf a
 | nd b c=>bal b c
def drp:Tr->Nat->Tr
 | lf d,a=>lf (aK d a)
 | nd b c,a=>rebal (if a < b.bits.length then mend (b.drp a) c else mend b (c.drp (a - b.bits.length)))
def aCc (a b:Tr):(aCU a b).bits=a.bits++b.bits:=by cases a <;> simp [aCU,bits]
def aCe (b a:Tr):(aCV b a).bits=b.bits++a.bits:=by cases a <;> simp [aCV,bits]
def aJv (a:Tr):(balL a).bits=a.bits:=by
 cases a with
 | lf b=>rfl
 | nd c b=>simp only [balL];split <;> simp [aCe,bits]
def aJt (a:Tr):(balR a).bits=a.bits:=by
 cases a with
 | lf b=>rfl
 | nd c b=>simp only [balR];split <;> simp [aCc,bits]
def aAO (a b:Tr):(bal a b).bits=a.bits++b.bits:=by
 unfold bal;split
 .rw [aCc,aJv]
 .split
  .rw [aCe,aJt]
  rfl
def aCb (a b:Tr):(aCU a b).Full↔a.Full/\b.Full:=by cases a <;> simp [aCU,Full,and_assoc]
def aCd (b a:Tr):(aCV b a).Full↔b.Full/\a.Full:=by cases a <;> simp [aCV,Full,and_assoc]
def aJu (a:Tr):(balL a).Full↔a.Full:=by
 cases a with
 | lf b=>rfl
 | nd c b=>simp only [balL];split <;> simp [aCd,Full]
def aJs (a:Tr):(balR a).Full↔a.Full:=by
 cases a with
 | lf b=>rfl
 | nd c b=>simp only [balR];split <;> simp [aCb,Full]
def aAN (a b:Tr):(bal a b).Full↔a.Full/\b.Full:=by
 unfold bal;split
 .rw [aCb,aJu]
 .split
  .rw [aCd,aJs]
  rfl
def bal_same (a b:Tr) (c:a.ht<=b.ht+1) (d:b.ht<=a.ht+1):bal a b=nd a b:=by
 unfold bal;rw [zBw oM,zBw oM]
def aDr {a b:Tr} (n:a.Avl) (o:b.Avl) (k:a.ht<=b.ht+2) (l:b.ht<=a.ht+2):(bal a b).Avl/\max a.ht b.ht<=(bal a b).ht/\(bal a b).ht<=max a.ht b.ht+1/\(a.ht<=b.ht+1->b.ht<=a.ht+1->(bal a b).ht=max a.ht b.ht+1):=by
 by_cases g:b.ht+1 < a.ht
 .have c:bal a b=aCU (balL a) b:=zBx g;rw [c];clear c;cases a with
  | lf d=>simp [ht] at g
  | nd e d=>
   obtain ⟨i,j,p,q⟩:=n;simp only [ht] at k l g;by_cases f:e.ht < d.ht
   .cases d with
    | lf v=>simp [ht] at f
    | nd b1 b2=>
     have c:balL (nd e (nd b1 b2))=nd (nd e b1) b2:=(by simp only [balL];rw [zBx f];rfl);rw [c];obtain ⟨r,s,w,x⟩:=j;simp only [ht] at k l g f p q;simp only [aCU,Avl,ht];refine ⟨⟨⟨i,r,by omega,by omega⟩,⟨s,o,by omega,by omega⟩,by omega,by omega⟩,by omega,by omega,by omega⟩
   .have c:balL (nd e d)=nd e d:=(by simp only [balL];rw [zBw f]);rw [c];simp only [aCU,Avl,ht];refine ⟨⟨i,⟨j,o,by omega,by omega⟩,by omega,by omega⟩,by omega,by omega,by omega⟩
 .by_cases f:a.ht+1 < b.ht
  .have c:bal a b=aCV a (balR b):=(by unfold bal;rw [zBw g,zBx f]);rw [c];clear c;cases b with
   | lf d=>simp [ht] at f
   | nd e d=>
    obtain ⟨i,j,p,q⟩:=o;simp only [ht] at k l g f;by_cases m:d.ht < e.ht
    .cases e with
     | lf v=>simp [ht] at m
     | nd t u=>
      have c:balR (nd (nd t u) d)=nd t (nd u d):=(by simp only [balR];rw [zBx m];rfl);rw [c];obtain ⟨r,s,w,x⟩:=i;simp only [ht] at k l g f m p q;simp only [aCV,Avl,ht];refine ⟨⟨⟨n,r,by omega,by omega⟩,⟨s,j,by omega,by omega⟩,by omega,by omega⟩,by omega,by omega,by omega⟩
    .have c:balR (nd e d)=nd e d:=(by simp only [balR];rw [zBw m]);rw [c];simp only [aCV,Avl,ht];refine ⟨⟨⟨n,i,by omega,by omega⟩,j,by omega,by omega⟩,by omega,by omega,by omega⟩
  rw [bal_same a b oM oM];simp only [Avl,ht];exact ⟨⟨n,o,by omega,by omega⟩,by omega,by omega,λ_ _=>trivial⟩
def aAv {α:Type} (a c:List α) {b} (e:α) (d:b<=a.length):aT (a++c) b e=aT a b e++c:=by
 unfold aT;rw [zDi d,zDC d];simp
def aAu {α:Type} (a c:List α) {b} (e:α) (d:a.length<=b):aT (a++c) b e=a++aT c (b - a.length) e:=by
 unfold aT;rw [zEI,zFE,zAg d,zFh d];simp
def aG1 {α:Type} {a:List α} (c:List α) {b} (d:b < a.length):aK (a++c) b=aK a b++c:=by
 unfold aK;rw [zDi oM,zDC oM];simp
def aG0 {α:Type} (a c:List α) {b} (d:a.length<=b):aK (a++c) b=a++aK c (b - a.length):=by
 unfold aK;rw [zEI,zFE,zAg d,zFh oM];simp;congr 1;omega
def ins_bits:∀(g:Tr) (b:Nat) (c:Bool),b<=g.bits.length->(g.ins b c).bits=aT g.bits b c
 | lf a,b,c,f=>by
  simp only [bits] at f;unfold ins;split
  .rename_i d
   split
   .rename_i j
    simp only [bits];have e:a=a.take 64++a.drop 64:=(zAu 64 a).symm;have i:(a.take 64).length=64:=by rw [zAj];omega
    conv=>rhs;rw [e,aAu _ _ _ oM,i]
   .rename_i j
    simp only [bits];have e:a=a.take 64++a.drop 64:=(zAu 64 a).symm;have i:(a.take 64).length=64:=by rw [zAj];omega
    conv=>rhs;rw [e,aAv _ _ _ oM]
  rfl
 | nd k l,b,c,f=>by
  simp only [bits,zAi] at f;unfold ins;split
  .rename_i d
   rw [aAO,ins_bits k b c d,bits,aAv _ _ _ d]
  .rename_i d
   rw [aAO,ins_bits l _ c oM,bits,aAu _ _ _ oM]
def qA:∀(e:Tr) (b:Nat) (c:Bool),b<=e.bits.length->e.Full->(e.ins b c).Full
 | lf f,b,c,d,a=>by
  simp only [bits,Full] at d a;unfold ins;split
  .rename_i g
   have l:(f.take 64).length=64:=(by rw [zAj];omega);have k:(f.drop 64).length=64:=(by rw [zAw];omega);split;simp only [Full];rw [cM _ _ oM];omega;simp only [Full];rw [cM _ _ oM];omega
  simp only [Full];rw [cM _ _ d];omega
 | nd i j,b,c,d,a=>by
  simp only [bits,zAi,Full] at d a;unfold ins;split
  .rename_i g
   rw [aAN];exact ⟨qA i b c g a.1,a.2⟩
  rw [aAN];exact ⟨a.1,qA j _ c oM a.2⟩
def ins_avl:∀(c:Tr) (a:Nat) (b:Bool),c.Avl->(c.ins a b).Avl/\c.ht<=(c.ins a b).ht/\(c.ins a b).ht<=c.ht+1
 | lf o,a,b,d=>by
  unfold ins;split
  .split <;> simp [Avl,ht]
  .simp [Avl,ht]
 | nd i n,a,b,d=>by
  simp only [Avl] at d;obtain ⟨f,g,p,q⟩:=d;unfold ins;split
  .obtain ⟨e,l,m⟩:=ins_avl i a b f;obtain ⟨b1,b2,j,k⟩:=aDr e g oM oM;refine ⟨b1,?_,?_⟩<;> simp only [ht] <;> omega
  .obtain ⟨e,l,m⟩:=ins_avl n (a - i.bits.length) b g;obtain ⟨b1,b2,j,k⟩:=aDr f e oM oM;refine ⟨b1,?_,?_⟩<;> simp only [ht] <;> omega
def ins_ok (c:Tr) (a d) (g:a<=c.bits.length) (f:c.Ok):(c.ins a d).Ok:=by
 cases c with
 | lf e=>
  simp only [Ok,bits] at f g;unfold ins;split
  .have p:(e.take 64).length=64:=(by rw [zAj];omega);have o:(e.drop 64).length=64:=(by rw [zAw];omega);split
   .simp only [Ok,Avl,Full,ht];rw [cM _ _ oM];refine ⟨⟨trivial,trivial,by omega,by omega⟩,by omega,by omega⟩
   .simp only [Ok,Avl,Full,ht];rw [cM _ _ oM];refine ⟨⟨trivial,trivial,by omega,by omega⟩,by omega,by omega⟩
  simp only [Ok];rw [cM _ _ g];omega
 | nd i j=>
  have b:=(ins_avl (nd i j) a d f.1);have k:=qA (nd i j) a d g f.2;cases l:(nd i j).ins a d with
  | lf e=>
   rw [l] at b;simp [ht] at b
  | nd m n=>
   rw [l] at b k;exact ⟨b.1,k⟩
def Near (b:Tr):Prop:=b.Full∨∃a,b=lf a/\a.length=31
def mend_bits (a b:Tr):(mend a b).bits=a.bits++b.bits:=by
 unfold mend;split
 .split
  .split <;> simp [bits]
  .simp [bits]
 .split
  .split <;> simp [bits];rw [<-zCo,zAu,zCo]
  .simp [bits]
 .split
  .split <;> simp [bits]
  .simp [bits]
 rfl
def aAm {a} (b:Near (lf a)):31<=a.length/\a.length<=128:=by
 rcases b with b |⟨d,c,e⟩;simp only [Full] at b;omega;injection c with c;subst c;omega
def aC5 {b c:Tr} (a:Near (nd b c)):(nd b c).Full:=by
 rcases a with a |⟨e,d,_⟩;exact a
 .cases d
def zI {t:Tr} (b:t.ht=0):∃a,t=lf a:=by
 cases t with
 | lf a=>exact ⟨a,rfl⟩
 | nd c d=>simp [ht] at b
def aAe {b a:Tr} (B:b.Avl) (D:a.Avl) (q:Near b) (j:Near a) (F:b.Full∨a.Full) (z:b.ht<=a.ht+2) (A:a.ht<=b.ht+2) (v:¬b.Full->a.ht<=1) (w:¬a.Full->b.ht<=1):
 (rebal (mend b a)).Avl/\(rebal (mend b a)).Full/\max b.ht a.ht<=(rebal (mend b a)).ht/\(rebal (mend b a)).ht<=max b.ht a.ht+1/\(b.Full->a.Full->b.ht<=a.ht+1->a.ht<=b.ht+1->(rebal (mend b a)).ht=max b.ht a.ht+1):=by
 have k:mend b a=nd b a->b.Full->a.Full->(rebal (mend b a)).Avl/\(rebal (mend b a)).Full/\max b.ht a.ht<=(rebal (mend b a)).ht/\(rebal (mend b a)).ht<=max b.ht a.ht+1/\(b.Full->a.Full->b.ht<=a.ht+1->a.ht<=b.ht+1->(rebal (mend b a)).ht=max b.ht a.ht+1):=λe x y=>by rw [e];obtain ⟨b1,b2,s,u⟩:=aDr B D z A;exact ⟨b1,(aAN b a).2 ⟨x,y⟩,b2,s,λ_ _=>u⟩
 cases b with
 | lf d=>
  have L:=aAm q;cases a with
  | lf c=>
   have H:=aAm j;by_cases f:d.length < 32∨c.length < 32
   .have K:63<=d.length+c.length:=(by simp only [Full] at F;omega);by_cases i:d.length+c.length<=128
    .have e:mend (lf d) (lf c)=lf (d++c):=(by simp only [mend];rw [zBx f,zBx i]);rw [e];simp only [rebal,Avl,Full,ht,zAi];refine ⟨trivial,by omega,by omega,by omega,λ_ _=>by omega⟩
    .have e:mend (lf d) (lf c)=nd (lf ((d++c).take ((d.length+c.length)/ 2))) (lf ((d++c).drop ((d.length+c.length)/ 2))):=(by simp only [mend];rw [zBx f,zBw i]);rw [e];simp only [rebal];rw [bal_same _ _ (by simp [ht]) (by simp [ht])];simp only [Avl,Full,ht,zAj,zAw,zAi];refine ⟨⟨trivial,trivial,by omega,by omega⟩,⟨by omega,by omega⟩,by omega,by omega,λ_ _ _ _=>by omega⟩
   refine k (by simp only [mend];rw [zBw f]) ?_ ?_;simp only [Full];omega;simp only [Full];omega
  | nd l r=>
   have p:=aC5 j;by_cases f:d.length < 32
   .have E:=v (by simp only [Full];omega);simp only [ht] at E;obtain ⟨c,rfl⟩:=zI (t:=l) oM;obtain ⟨g,rfl⟩:=zI (t:=r) oM;simp only [Full] at p;by_cases i:d.length+c.length<=128
    .have e:mend (lf d) (nd (lf c) (lf g))=nd (lf (d++c)) (lf g):=(by simp only [mend];rw [zBx f,zBx i]);rw [e];simp only [rebal];rw [bal_same _ _ (by simp [ht]) (by simp [ht])];simp only [Avl,Full,ht,zAi];refine ⟨⟨trivial,trivial,by omega,by omega⟩,⟨by omega,by omega⟩,by omega,by omega,λn _=>by omega⟩
    .have e:mend (lf d) (nd (lf c) (lf g))=nd (lf ((d++c).take ((d.length+c.length)/ 2))) (nd (lf ((d++c).drop ((d.length+c.length)/ 2))) (lf g)):=(by simp only [mend];rw [zBx f,zBw i]);rw [e];simp only [rebal];rw [bal_same _ _ (by simp [ht]) (by simp [ht])];simp only [Avl,Full,ht,zAj,zAw,zAi];refine ⟨⟨trivial,⟨trivial,trivial,by omega,by omega⟩,by omega,by omega⟩,⟨by omega,by omega,by omega⟩,by omega,by omega,λn _=>by omega⟩
   .refine k ?_ (by simp only [Full];omega) p;cases l with
    | lf c=>simp only [mend];rw [zBw f]
    | nd I J=>rfl
 | nd G o=>
  have m:=aC5 q;cases a with
  | lf c=>
   have H:=aAm j;by_cases f:c.length < 32
   .have C:=w (by simp only [Full];omega);simp only [ht] at C;obtain ⟨g,rfl⟩:=zI (t:=G) oM;obtain ⟨d,rfl⟩:=zI (t:=o) oM;simp only [Full] at m;by_cases i:d.length+c.length<=128
    .have e:mend (nd (lf g) (lf d)) (lf c)=nd (lf g) (lf (d++c)):=(by simp only [mend];rw [zBx f,zBx i]);rw [e];simp only [rebal];rw [bal_same _ _ (by simp [ht]) (by simp [ht])];simp only [Avl,Full,ht,zAi];refine ⟨⟨trivial,trivial,by omega,by omega⟩,⟨by omega,by omega⟩,by omega,by omega,λ_ n=>by omega⟩
    .have e:mend (nd (lf g) (lf d)) (lf c)=nd (nd (lf g) (lf ((d++c).take ((d.length+c.length)/ 2)))) (lf ((d++c).drop ((d.length+c.length)/ 2))):=(by simp only [mend];rw [zBx f,zBw i]);rw [e];simp only [rebal];rw [bal_same _ _ (by simp [ht]) (by simp [ht])];simp only [Avl,Full,ht,zAj,zAw,zAi];refine ⟨⟨⟨trivial,trivial,by omega,by omega⟩,trivial,by omega,by omega⟩,⟨⟨by omega,by omega⟩,by omega⟩,by omega,by omega,λ_ n=>by omega⟩
   .refine k ?_ m (by simp only [Full];omega);cases o with
    | lf d=>simp only [mend];rw [zBw f]
    | nd I J=>rfl
  | nd l r=>
   refine k ?_ m (aC5 j);cases o <;> cases l <;> rfl
def aGs (a:Tr):(rebal a).bits=a.bits:=by
 cases a with
 | lf b=>rfl
 | nd c d=>simp only [rebal,aAO,bits]
def drp_bits:∀(c:Tr) (a:Nat),a < c.bits.length->(c.drp a).bits=aK c.bits a
 | lf g,a,d=>rfl
 | nd e f,a,d=>by
  simp only [bits,zAi] at d;unfold drp;rw [aGs];split
  .rename_i b
   rw [mend_bits,drp_bits e a b,bits,aG1 _ b]
  .rename_i b
   rw [mend_bits,drp_bits f _ oM,bits,aG0 _ _ oM]
def drp_spec:∀(b:Tr) (a:Nat),a < b.bits.length->b.Avl->b.Full->(b.drp a).Avl/\Near (b.drp a)/\(¬(b.drp a).Full->b.ht=0)/\(b.drp a).ht<=b.ht/\b.ht<=(b.drp a).ht+1
 | lf u,a,m,_,n=>by simp only [bits,Full] at m n;have D:=cJ m;refine ⟨trivial,?_,λ_=>rfl,zAs _,by simp [ht]⟩;by_cases e:u.length=32;exact .inr ⟨aK u a,rfl,by omega⟩;refine .inl ?_;simp only [drp,Full];omega
 | nd d f,a,m,w,n=>by
  simp only [bits,zAi] at m;obtain ⟨s,t,B,C⟩:=w;obtain ⟨i,j⟩:=n;unfold drp;split
  .rename_i v
   obtain ⟨o,p,k,x,y⟩:=drp_spec d a v s i;obtain ⟨q,l,z,A,r⟩:=aAe o t p (.inl j) (.inr j) oM oM (λc=>by have:=k c;omega) (λc=>absurd j c);refine ⟨q,.inl l,λc=>absurd l c,by simp only [ht];omega,?_⟩;simp only [ht];by_cases e:(d.drp a).Full;by_cases g:(d.drp a).ht<=f.ht+1/\f.ht<=(d.drp a).ht+1;have:=r e j g.1 g.2;omega;omega;have:=k e;omega
  .rename_i v
   obtain ⟨o,p,k,x,y⟩:=drp_spec f (a - d.bits.length) oM t j;obtain ⟨q,l,z,A,r⟩:=aAe s o (.inl i) p (.inl i) oM oM (λc=>absurd i c) (λc=>by have:=k c;omega);refine ⟨q,.inl l,λc=>absurd l c,by simp only [ht];omega,?_⟩;simp only [ht];by_cases e:(f.drp (a - d.bits.length)).Full;by_cases g:d.ht<=(f.drp (a - d.bits.length)).ht+1/\(f.drp (a - d.bits.length)).ht<=d.ht+1;have:=r i e g.1 g.2;omega;omega;have:=k e;omega
def aNg {a:Tr} (c:a.Avl) (b:a.Full):a.Ok:=by
 cases a with
 | lf d=>
  simp only [Full] at b;simp only [Ok];omega
 | nd e f=>exact ⟨c,b⟩
def drp_ok (a:Tr) (b) (d:b < a.bits.length) (c:a.Ok) (i:a.bits.length≠1):(a.drp b).Ok:=by
 cases a with
 | lf j=>
  simp only [Ok,bits] at c d i;have:=cJ d;simp only [drp,Ok];omega
 | nd f g=>
  have:=drp_spec (nd f g) b d c.1 c.2;by_cases e:((nd f g).drp b).Full;exact aNg this.1 e
  .have:=this.2.2.1 e;simp [ht] at this
def lv_pos:∀b:Tr,1<=b.lv
 | lf _=>zAs _
 | nd a c=>by have:=lv_pos a;simp only [lv];omega
end Tr
end
section
open Go.RowKit Go
section
variable {P : Program} {ops : Array Oper} {Q : Exit -> Act -> World -> Prop} {md : Region.Mode}
def xM {e r f} {i:Nat->World->World->Prop} {j:Nat->World->Prop} {g l n} (B:(ops.toList.take e).filterMap (·.dst)=r) (H:e<=ops.size) (G:kL md ops l.tmps.size=true) (K:((List.range ops.size).all λs=>decide (s < e)||(List.range e).all λa=>upB md ops ops.size s a)=true) (x:f n) (z:∀a,j a n) (w:∀b c d,b < e->f c->i b c d->f d) (y:∀a b c d,b < e->a≠b->upB md ops ops.size b a=false->j a c->f c->i b c d->j a d) (I:∀a b k c d,b < e->a≠b->aDt md ops a b=false->g a k c->f c->i b c d->g a k d) (J:∀b t,b < e->ops[b]?=some t->dN P ops Q md f i j g l b t) (D:∀(m:Operand->Value) c o,f c->(∀a q,a < e->((ops[a]?).bind (·.dst))=some q->g a (m (.tmp q)) c)->(∀a,a < e->∃k,g a k c)->wpAny P md ops Q (ops.size - e+o) (bT e ops.size) (dJ m r l) c):
 wpAny P md ops Q ops.size (Array.replicate ops.size false) l n:=by
 exact mP (C:=λ_=>f) (S:=λb _=>i b) (U:=j) (V:=λa _=>g a) B H G (aHI K) x z (λb _ _ _ _ c d p _ _ _=>w b c d p) (λa b _ _ c d=>y a b c d) (λ_ _ _ _ _ _ _ _ p=>p) (λa b _ _ _ k _ c d F E _ _ u v=>I a b k c d F u (aHf E v)) J λm c o A L M=>D m c o A L M
def iG (e r f) (g:Nat->World->World->Prop) (i:Nat->World->Prop) (j k n) (B:(ops.toList.take e).filterMap (·.dst)=r) (H:e<=ops.size) (G:kL md ops k.tmps.size=true) (K:((List.range ops.size).all λs=>decide (s < e)||(List.range e).all λb=>upB md ops ops.size s b)=true) (x:f n) (z:∀b,i b n) (w:∀a c d,a < e->f c->g a c d->f d) (y:∀b a c d,a < e->b≠a->upB md ops ops.size a b=false->i b c->f c->g a c d->i b d) (I:∀b a m c d,a < e->b≠a->aDt md ops b a=false->j b m c->f c->g a c d->j b m d) (J:∀a t,a < e->ops[a]?=some t->dN P ops Q md f g i j k a t) (D:∀(l:Operand->Value) c o,f c->(∀b q,b < e->((ops[b]?).bind (·.dst))=some q->j b (l (.tmp q)) c)->wpAny P md ops Q (ops.size - e+o) (bT e ops.size) (dJ l r k) c):
 wpAny P md ops Q ops.size (Array.replicate ops.size false) k n:=by
 exact mP (C:=λ_=>f) (S:=λa _=>g a) (U:=i) (V:=λb _=>j b) B H G (aHI K) x z (λa _ _ _ _ c d p _ _ _=>w a c d p) (λb a _ _ c d=>y b a c d) (λ_ _ _ _ _ _ _ _ p=>p) (λb a _ _ _ m _ c d F E _ _ u v=>I b a m c d F u (aHf E v)) J λl c o A L _=>D l c o A L
def bJ {d a b e} {c:Act->World->Prop} (i:ops[d]?=some a) (g:a.guard=none) (f:Oper.upon P a b c Q ((execOp b.eval a).run P e)):wpOp P ops Q d c b e:=by
 unfold wpOp;simp only [i];have j:Region.wanted a (yielded ops b.tmps)=true:=by unfold Region.wanted;rw [g]
 rw [zBx j];exact .inl f
end
end
section
namespace Tr
def cut (a:List Bool) (b c d:Nat):List Bool:=(a.take (a.length*d / b)).drop (a.length*c / b)
def bld (a:List Bool) (b:Nat):Nat->Nat->Nat->Tr
 | 0,f,t=>lf (cut a b f t)
 | u+1,f,t=>if t - f=1 then lf (cut a b f t) else nd (bld a b u f ((f+t)/ 2)) (bld a b u ((f+t)/ 2) t)
def cut_len {bs:List Bool} {a f b:Nat} (c:0 < a) (ht:b<=a):(cut bs a f b).length=bs.length*b / a - bs.length*f / a:=by
 unfold cut;rw [zAw,zAj,zCu];exact Nat.div_le_of_le_mul (by rw [zFY];exact zEk _ ht)
def aNm {a b d c e} (j:d<=c) (k:c<=e):cut a b d c++cut a b c e=cut a b d e:=by
 unfold cut;have l:a.length*d / b<=a.length*c / b:=zEV (zGf _ j);have f:a.length*c / b<=a.length*e / b:=zEV (zGf _ k);generalize a.length*d / b=x at*
 generalize a.length*c / b=y at*
 generalize a.length*e / b=z at*
 have g:a.take y=(a.take z).take y:=by rw [zEy,zCu f]
 rw [g,List.drop_take];have i:(a.take z).drop y=((a.take z).drop x).drop (y - x):=by rw [zFB];congr 1;omega
 rw [i,zAu]
def bld_bits (d:List Bool) (e:Nat):∀c a b,a < b->b - a<=c+1->(bld d e c a b).bits=cut d e a b
 | 0,a,b,_,_=>rfl
 | c+1,a,b,h,hu=>by
  unfold bld;split;rfl
  .show (bld d e c a ((a+b)/ 2)).bits++(bld d e c ((a+b)/ 2) b).bits=_;rw [bld_bits d e c _ _ oM oM,bld_bits d e c _ _ oM oM,aNm oM oM]
def Hn:Nat->Nat->Nat
 | 0,_=>0
 | u+1,d=>if d=1 then 0 else max (Hn u (d / 2)) (Hn u (d - d / 2))+1
def xB (d:List Bool) (e:Nat):∀c a b,a < b->(bld d e c a b).ht=Hn c (b - a)
 | 0,a,b,_=>rfl
 | c+1,a,b,h=>by
  unfold bld Hn;split;rfl
  .show max (bld d e c a ((a+b)/ 2)).ht (bld d e c ((a+b)/ 2) b).ht+1=_;rw [xB d e c _ _ oM,xB d e c _ _ oM];have f:(a+b)/ 2 - a=(b - a)/ 2:=oM;have g:b -(a+b)/ 2=b - a -(b - a)/ 2:=oM;rw [f,g]
def aNE:∀b:Fin 10,∀a:Fin 12,2<=a.val->a.val<=b.val+2->Hn b.val (a.val / 2)<=Hn b.val (a.val - a.val / 2)+1/\Hn b.val (a.val - a.val / 2)<=Hn b.val (a.val / 2)+1:=dC
def leaf_len {b a f} (e:0 < a) (i:b<=128*a):b*(f+1)/ a - b*f / a<=128:=by
 have d:b*(f+1)<=b*f+128*a:=by rw [Nat.mul_add,zBl];omega
 have g:(b*f+128*a)/ a=b*f / a+128:=Nat.add_mul_div_right _ _ e;have:=zEV (c:=a) d;omega
def aCl {b a f} (i:1 < a) (g:128*(a - 1) < b):64<=b*(f+1)/ a - b*f / a:=by
 have d:b*f+64*a<=b*(f+1):=by rw [Nat.mul_add,zBl];omega
 have e:(b*f+64*a)/ a=b*f / a+64:=Nat.add_mul_div_right _ _ oM;have:=zEV (c:=a) d;omega
def aAM {d:List Bool} {b:Nat} (j:1 < b) (g:d.length<=128*b) (i:128*(b - 1) < d.length):∀e a c,a < c->c - a<=e+1->c<=b->(bld d b e a c).Full
 | 0,a,c,h,hu,ht=>by have k:c=a+1:=oM;subst k;have l:=leaf_len (f:=a) oM g;have m:=aCl (f:=a) j i;show 32<=(cut d b a (a+1)).length/\(cut d b a (a+1)).length<=128;rw [cut_len oM ht];omega
 | e+1,a,c,h,hu,ht=>by unfold bld;split;have k:c=a+1:=oM;subst k;have l:=leaf_len (f:=a) oM g;have m:=aCl (f:=a) j i;show 32<=(cut d b a (a+1)).length/\(cut d b a (a+1)).length<=128;rw [cut_len oM ht];omega;exact ⟨aAM j g i e _ _ oM oM oM,aAM j g i e _ _ oM oM ht⟩
def aDp {bs:List Bool} {c:Nat}:∀d a b,a < b->b - a<=d+1->d < 11->(bld bs c d a b).Avl
 | 0,a,b,h,hu,ht=>trivial
 | d+1,a,b,h,hu,ht=>by
  unfold bld;split
  .trivial
  have:=aNE ⟨d,by omega⟩ ⟨b - a,by omega⟩ (show 2<=b - a by omega) (show b - a<=d+2 by omega);refine ⟨aDp d _ _ oM oM oM,aDp d _ _ oM oM oM,?_,?_⟩;rw [xB _ _ _ _ _ oM,xB _ _ _ _ _ oM];have e:(a+b)/ 2 - a=(b - a)/ 2:=oM;have f:b -(a+b)/ 2=b - a -(b - a)/ 2:=oM;rw [e,f];exact this.1;rw [xB _ _ _ _ _ oM,xB _ _ _ _ _ oM];have e:(a+b)/ 2 - a=(b - a)/ 2:=oM;have f:b -(a+b)/ 2=b - a -(b - a)/ 2:=oM;rw [e,f];exact this.2
def bld_lv (d:List Bool) (e:Nat):∀c a b,a < b->b - a<=c+1->(bld d e c a b).lv=b - a
 | 0,a,b,h,hu=>by show 1=b - a;omega
 | c+1,a,b,h,hu=>by unfold bld;split;show 1=b - a;omega;show (bld d e c a ((a+b)/ 2)).lv+(bld d e c ((a+b)/ 2) b).lv=_;rw [bld_lv d e c _ _ oM oM,bld_lv d e c _ _ oM oM];omega
def lvs (a:Nat):Nat:=(a+127)/ 128
def mk (a:List Bool):Tr:=bld a (lvs a.length) (lvs a.length - 1) 0 (lvs a.length)
def aH9 (b) {a} (c:0 < a):cut b a 0 a=b:=by
 unfold cut;rw [Nat.mul_zero,Nat.zero_div,zFA,Nat.mul_div_cancel _ c,zFf]
def mk_bits {a} (b:0 < a.length):(mk a).bits=a:=by
 unfold mk;have:0 < lvs a.length:=by unfold lvs;omega
 rw [bld_bits _ _ _ _ _ this oM,aH9 _ this]
def mk_ok {a} (j:0 < a.length) (p:a.length<=1100):(mk a).Ok:=by
 have f:0 < lvs a.length:=by unfold lvs;omega
 by_cases g:lvs a.length=1;have i:mk a=lf a:=(by unfold mk;rw [g];show lf (cut a 1 0 1)=lf a;rw [aH9 _ oM]);rw [i];have:(a.length+127)/ 128=1:=g;exact ⟨j,by omega⟩
 .have k:1 < lvs a.length:=oM;have l:a.length<=128*lvs a.length:=(by unfold lvs;omega);have m:128*(lvs a.length - 1) < a.length:=(by unfold lvs;omega);have o:lvs a.length<=9:=(by unfold lvs;omega);have e:=aAM k l m (lvs a.length - 1) 0 (lvs a.length) f oM nL;have d:=aDp (bs:=a) (c:=lvs a.length) (lvs a.length - 1) 0 (lvs a.length) f oM oM;have b:=bld_lv a (lvs a.length) (lvs a.length - 1) 0 (lvs a.length) f oM;show (bld a (lvs a.length) (lvs a.length - 1) 0 (lvs a.length)).Ok;revert e d b;cases bld a (lvs a.length) (lvs a.length - 1) 0 (lvs a.length) with
  | lf n=>intro _ _ b;exact absurd b (by show ¬1=_;omega)
  | nd b q=>intro e d _;exact ⟨d,e⟩
end Tr
end
section
open Go.RowKit
def mM {c:FuncId} {a:Func} (i:prog.funcs[c]?=some a) (j:(a.name== "runtime.NumGoroutine")=false) (f:a.body.isSome=true):∀b d,(callFunc c b).run prog d=.ok (.enter c b) d:=λb d=>by
 have e:a.name≠ "runtime.NumGoroutine" :=by simpa using j
 obtain ⟨k,g⟩:=Option.isSome_iff_exists.1 f;simp [callFunc,i,e,g]
end
section
def mK:Nat->Nat->List UInt8
 | 0,_=> []
 | f+1,n=>if n=0 then [] else mK f (n / 128)++ [UInt8.ofNat (n % 128+128)]
def bW (a:Nat):List UInt8:=mK 10 (a / 128)++ [UInt8.ofNat (a % 128)]
def dZ (a:List Nat):List UInt8:=a.flatMap bW
def fG:List UInt8->Bool->Nat->Nat->Option (Nat×Nat)
 | [],_,_,_=>none
 | c::r,first,acc,pos=>
  if (first&&c.toNat==128)||decide (144115188075855871 < acc) then none
  else if c.toNat < 128 then some (acc*128+c.toNat % 128,pos+1) else fG r false (acc*128+c.toNat % 128) (pos+1)
def fF (b:List UInt8) (a:Int):Nat×Int×Int:=
 if a < 0∨(b.length:Int) < a then (0,a,2)
 else match fG (b.drop a.toNat) true 0 a.toNat with
  | some (c,d)=>(c,d,0)
  | none=>(0,a,4)
def aBC:Nat->Nat->List UInt8
 | 0,_=> []
 | k+1,n=>aBC k n++ [UInt8.ofNat (n / 256 ^ k % 256)]
def nD (a:Nat):List UInt8:=aBC 4 a
def ofN (b:List UInt8) (a:Nat):Nat->Nat
 | 0=>0
 | k+1=>ofN b a k+(b[a+k]?.getD 0).toNat*256 ^ k
def ofB (b:List UInt8) (a:Int):Nat×Int:=
 if a < 0∨(b.length:Int) < a then (0,2) else if (b.length:Int) - a < 4 then (0,4) else (ofN b a.toNat 4,0)
def aN9 (c b a):ofN c b a < 256 ^ a:=by
 induction a with
 | zero=>simp [ofN]
 | succ a e=>
  have:(c[b+a]?.getD 0).toNat < 256:=UInt8.toNat_lt _;simp only [ofN,zEM];have d:(c[b+a]?.getD 0).toNat*256 ^ a<=255*256 ^ a:=zEk _ oM;omega
def oJ (a d first b c):fG (a::d) first b c=
 if (first&&a.toNat==128)||decide (144115188075855871 < b) then none
 else if a.toNat < 128 then some (b*128+a.toNat % 128,c+1) else fG d false (b*128+a.toNat % 128) (c+1):=by conv=>lhs;rw [fG]
def rE (a):mK a 0= []:=by cases a <;> simp [mK]
def aIP (b):∀a,a < 128 ^ b->mK (b+1) a=mK b a:=by
 induction b with
 | zero=>intro a c;have:a=0:=by simpa using c
         subst this;simp [mK]
 | succ b e=>
  intro a c;by_cases d:a=0
  .subst d;simp [rE]
  .rw [mK,zBw d,e (a / 128) (by rw [zEP oM];rw [zEM] at c;exact c)]
   conv=>rhs;rw [mK,zBw d]
def aCh (a) (b:a≠0) (c:a < 128 ^ 10):mK 10 a=mK 10 (a / 128)++ [UInt8.ofNat (a % 128+128)]:=by
 rw [aIP 9 (a / 128) oM]
 conv=>lhs;rw [mK,zBw b]
def aEJ (a):∀b,(mK a b).length<=a:=by
 induction a with
 | zero=>intro b;simp [mK]
 | succ a c=>
  intro b;unfold mK;split
  .simp
  have:=c (b / 128);simp;omega
def bX (a):(bW a).length<=11:=by
 have:=aEJ 10 (a / 128);simp [bW];omega
def aAD (a):(dZ a).length<=11*a.length:=by
 induction a with
 | nil=>simp [dZ]
 | cons b a c=>
  have:=bX b;simp [dZ] at c⊢;omega
def aEY {b:List Nat} {a:Nat} {c:Nat} (d:b[a]?=some c):dZ (b.take (a+1))=dZ (b.take a)++bW c:=by
 have e:a < b.length:=(zAc.1 d).1;rw [zDo e];have:b[a]=c:=(zAc.1 d).2;rw [this];simp [dZ,zDI]
def aM1 {b c a} (f:c+1<=a) (e:a=0∨1<=b / 2 ^(7*a)):b / 2 ^(7*(c+1))≠0:=by
 have g:1<=b / 2 ^(7*a):=by rcases e with d | d <;> omega
 have i:b / 2 ^(7*a)<=b / 2 ^(7*(c+1)):=Nat.div_le_div_left (zBp oM oM) (Nat.pow_pos oM);omega
def aOd {a} (b) (c:a < 18446744073709551616):a / 2 ^(7*(b+1)) < 128 ^ 9:=by
 have d:a / 2 ^(7*(b+1))<=a / 2 ^ 7:=Nat.div_le_div_left (zBp oM oM) (Nat.pow_pos oM);omega
def aOu (b a):b / 2 ^(7*(a+1))=b / 2 ^(7*a)/ 128:=by
 rw [zFg,show 7*(a+1)=7*a+7 by omega,Nat.pow_add]
def aIA {b a} (e:b < 18446744073709551616) (f:a<=9) (d:128<=b / 2 ^(7*a)):a+1<=9:=by
 by_cases c:a=9;subst c;rw [Nat.le_div_iff_mul_le dC] at d;omega;omega
def tH (a):dZ [a]=bW a:=by simp [dZ]
def aI7 (b):∀a e c,a < 128 ^ b->a < 144115188075855872->fG (mK b a++e) true 0 c=fG e (a==0) a (c+(mK b a).length):=by
 induction b with
 | zero=>intro a e c d _;have:a=0:=by simpa using d
         subst this;simp [mK]
 | succ b k=>
  intro a e c d l;by_cases f:a=0
  .subst f;simp [rE]
  .rw [mK,zBw f,zCo,k (a / 128) _ c (by rw [zEP oM];rw [zEM] at d;exact d) oM];rw [zFp,oJ];have j:(UInt8.ofNat (a % 128+128)).toNat=a % 128+128:=(by simp [zEc];omega);rw [j,zBw,zBw oM]
   .have i:a / 128*128+(a % 128+128)% 128=a:=oM;rw [i,zAi,List.length_singleton,zDp];have:(a==0)=false:=(by simp [f]);rw [this]
   by_cases g:a / 128=0;simp [g];omega;simp [g];omega
def rP {n} (d:n < 18446744073709551616) (c a):fG (bW n++c) true 0 a=some (n,a+(bW n).length):=by
 unfold bW;rw [zCo,aI7 10 (n / 128) _ a oM oM,zFp,oJ];have b:(UInt8.ofNat (n % 128)).toNat=n % 128:=by simp [zEc];omega
 rw [b,zBw,zBx oM,zAi,List.length_singleton];congr 2;omega;simp;omega
def aLJ (a):0 < (bW a).length:=by simp [bW]
def aLy (b d) {a} (c:a < 18446744073709551616):fF (b++(bW a++d)) (b.length:Int)=(a,((b.length+(bW a).length:Nat):Int),0):=by
 rw [fF,zBw zt];simp only [zBr,zFV];rw [rP c]
def dM (a:List (Int×Nat)) (b:Int):List (Int×Nat):=
 match a.getLast? with
 | some (c,d)=>if c=b then a.dropLast++ [(c,d+1)] else a++ [(b,1)]
 | none=> [(b,1)]
def bI (a:List Int):List (Int×Nat):=a.foldl dM []
def xP {b:List Int} {a:Nat} {d:Int} (c:b[a]?=some d):bI (b.take (a+1))=dM (bI (b.take a)) d:=by
 have e:a < b.length:=(zAc.1 c).1;rw [zDo e,(zAc.1 c).2];simp [bI,zFt]
def gL (c:List (Int×Nat)) (a b):dM (c++ [(a,b)]) a=c++ [(a,b+1)]:=by simp [dM]
def fT (d:List (Int×Nat)) {b a} (c) (e:b≠a):dM (d++ [(b,c)]) a=d++ [(b,c)]++ [(a,1)]:=by simp [dM,e]
def xQ (a):dM [] a= [(a,1)]:=by simp [dM]
def aEr (a:List (Int×Nat)) (b):(dM a b).length<=a.length+1/\a.length<=(dM a b).length:=by
 rcases zDL a with rfl |⟨f,⟨d,e⟩,rfl⟩
 .simp [dM]
 .rw [zDW];by_cases c:d=b
  .subst c;rw [gL];simp
  .rw [fT _ _ c];simp
def jG (a):(bI a).length<=a.length:=by
 have e:∀(a:List Int) (b:List (Int×Nat)),(a.foldl dM b).length<=b.length+a.length:=by
  intro a
  induction a with
  | nil=>intro b;simp
  | cons c a d=>intro b;have:=d (dM b c);have f:=(aEr b c).1;simp only [zCq,zCg];omega
 have:=e a [];simpa [bI] using this
def eV (b:List (Int×Nat)):List Int:=b.flatMap λa=>List.replicate a.2 a.1
def aEW (a:List (Int×Nat)) (b):eV (dM a b)=eV a++ [b]:=by
 rcases zDL a with rfl |⟨f,⟨d,e⟩,rfl⟩
 .simp [dM,eV]
 .rw [zDW];by_cases c:d=b
  .subst c;rw [gL];simp [eV,zDI,List.replicate_succ']
  .rw [fT _ _ c];simp [eV,zDI]
def kA (a):eV (bI a)=a:=by
 have d:∀(a:List Int) (b:List (Int×Nat)),eV (a.foldl dM b)=eV b++a:=by
  intro a
  induction a with
  | nil=>intro b;simp
  | cons e a c=>intro b;rw [zCq,c,aEW];simp
 have:=d a [];simpa [bI,eV] using this
def xG (a:List (Int×Nat)):Prop:=(∀e∈a,1<=e.2)/\a.Pairwise (λ_ _=>True)/\∀d b c,a[d]?=some b->a[d+1]?=some c->b.1≠c.1
def aGn {k:List (Int×Nat)} (l) (s:xG k):xG (dM k l):=by
 obtain ⟨r,_,n⟩:=s;refine ⟨?_,List.pairwise_of_forall (by intros;trivial),?_⟩
 .rcases zDL k with rfl |⟨g,⟨f,j⟩,rfl⟩
  .simp [dM]
  .rw [zDW] at*
   by_cases e:f=l
   .subst e;rw [gL];intro p c;rcases zCp.1 c with c | c;exact r p (zDE _ c)
    .have:=zDa.1 c;subst this;simp
   .rw [fT _ _ e];intro p c;rcases zCp.1 c with c | c;exact r p c
    .have:=zDa.1 c;subst this;simp
 .intro d m q b a;rcases zDL k with rfl |⟨g,⟨f,j⟩,rfl⟩
  .simp [dM] at a
  .rw [zDW] at*
   by_cases e:f=l
   .subst e;rw [gL] at b a;have o:d+1 < (g++ [(f,j+1)]).length:=(zAc.1 a).1;simp at o;by_cases i:d+1=g.length;rw [zAo oM,i] at a;simp at a;rw [zAn oM] at b;have:=n d m (f,j) (by rw [zAn oM];exact b) (by rw [zAo oM,i];simp);rw [<-a];exact this
    .rw [zAn oM] at b a;exact n d m q (by rw [zAn oM];exact b) (by rw [zAn oM];exact a)
   rw [fT _ _ e] at b a;have o:d+1 < (g++ [(f,j)]++ [(l,1)]).length:=(zAc.1 a).1;simp at o;by_cases i:d=g.length;subst i;rw [zAn zs] at b;simp at b;rw [zAo zs] at a;simp at a;rw [<-b,<-a];exact e;rw [zAn zt] at b a;exact n d m q b a
def wI (a):xG (bI a):=by
 have e:∀(a:List Int) (b:List (Int×Nat)),xG b->xG (a.foldl dM b):=by
  intro a
  induction a with
  | nil=>intro b c;exact c
  | cons f a d=>intro b c;exact d _ (aGn f c)
 exact e a [] ⟨by simp,List.Pairwise.nil,by simp⟩
def aGV (a:List (Int×Nat)) (d:Int×Nat) (b:d∈a):d.2<=(eV a).length:=by
 induction a with
 | nil=>cases b
 | cons c a f=>
  have e:eV (c::a)=List.replicate c.2 c.1++eV a:=(by simp [eV]);rw [e,zAi,zCn];rcases zDf.1 b with rfl | b;omega;have:=f b;omega
def lF {l} {x:Int×Nat} (a:x∈bI l):x.2<=l.length:=by
 have:=aGV _ x a;rwa [kA] at this
def fJ (a:Int):Prop:=0<=a/\a < 257
instance (s:Int):Decidable (fJ s):=inferInstanceAs (Decidable (_/\_))
def cB (a:Int×Nat):List UInt8:=bW a.1.toNat++bW a.2
def eO (a:List (Int×Nat)):List UInt8:=bW a.length++a.flatMap cB
def lY (a:List Int):Option (List UInt8):=if ∀b∈bI a,fJ b.1 then some (eO (bI a)) else none
def xR (a:Int×Nat):(cB a).length<=22:=by
 have:=bX a.1.toNat;have:=bX a.2;simp [cB];omega
def sF {r:List (Int×Nat)} {k} {b:Int×Nat} (a:r[k]?=some b):(r.take (k+1)).flatMap cB=(r.take k).flatMap cB++cB b:=by
 have c:k < r.length:=(zAc.1 a).1;rw [zDo c,(zAc.1 a).2];simp [zDI]
def qC (a:List (Int×Nat)):(a.flatMap cB).length<=22*a.length:=by
 induction a with
 | nil=>simp
 | cons b a c=>
  have:=xR b;rw [zFT,zAi,zCg];omega
def sH (b:List UInt8) (a:Nat):Option (Nat×Nat×Nat):=
 match fG (b.drop a) true 0 a with
 | none=>none
 | some (f,c)=>
  match fG (b.drop c) true 0 c with
  | none=>none
  | some (e,d)=>some (f,e,d)
def rgo (c:List UInt8) (e:Nat):Nat->Nat->Nat->List Int->List Int×Int
 | 0,a,_,acc=>if a=c.length then (acc,0) else ([],4)
 | n+1,a,last,acc=>
  match sH c a with
  | none=>([],4)
  | some (b,d,f)=>if 257<=b∨b=last∨d=0 then ([],4) else if e - acc.length < d then ([],3) else rgo c e n f b (acc++List.replicate d (b:Int))
def oI (a:List UInt8) (aA:Int):List Int×Int:=
 match fG a true 0 0 with
 | none=>([],4)
 | some (c,b)=>rgo a aA.toNat c b 257 []
def aAy (f):∀first b d e c,fG f first b d=some (e,c)->d < c/\c<=d+f.length/\e < 18446744073709551616:=by
 induction f with
 | nil=>intro first b d e c a;rw [fG] at a;cases a
 | cons j l i=>
  intro first b d e c a
  rw [oJ] at a;split at a
  .cases a
  .rename_i g
   split at a
   .injection a with a;injection a with h1 h2;subst h1;subst h2;have k:b<=144115188075855871:=(by rcases zBe 144115188075855871 b with a | a;exact absurd (by simp [a]) g;exact a);refine ⟨by omega,by simp,by omega⟩
   have:=i _ _ _ _ _ a;simp only [zCg];omega
def tF {b a} (d c) (f:a<=b.length) (e:fG (b.drop a) true 0 a=some (d,c)):fF b (a:Int)=(d,(c:Int),0):=by
 rw [fF,zBw oM];simp only [zBr,e]
def tG {b a} (d:a<=b.length) (c:fG (b.drop a) true 0 a=none):fF b (a:Int)=(0,(a:Int),4):=by
 rw [fF,zBw oM];simp only [zBr,c]
def aEB {b} (f g) {a} (e c) (d:sH b a=none):rgo b f (g+1) a e c=([],4):=by simp only [rgo,d]
def aEA {d} (e j) {f} (i c) {a b g} (k:sH d f=some (a,b,g)):
 rgo d e (j+1) f i c=if 257<=a∨a=i∨b=0 then ([],4) else if e - c.length < b then ([],3) else rgo d e j g a (c++List.replicate b (a:Int)):=by simp only [rgo,k]
def aEt {b a} (c:fG (b.drop a) true 0 a=none):sH b a=none:=by simp only [sH,c]
def aEs {b a f c} (d:fG (b.drop a) true 0 a=some (f,c)) (e:fG (b.drop c) true 0 c=none):sH b a=none:=by simp only [sH,d,e]
def aAa {b a f c e d} (g:fG (b.drop a) true 0 a=some (f,c)) (i:fG (b.drop c) true 0 c=some (e,d)):sH b a=some (f,e,d):=by simp only [sH,g,i]
def lM (a):(nD a).length=4:=by simp [nD,aBC]
def aLD (a e b) (g:b < a):(aBC a e)[b]?=some (UInt8.ofNat (e / 256 ^ b % 256)):=by
 induction a with
 | zero=>omega
 | succ a d=>
  have c:∀a,(aBC a e).length=a:=λa=>by induction a with
   | zero=>rfl
   | succ a d=>simp [aBC,d]
  rw [aBC];by_cases f:b=a
  .subst f;rw [zAo (by rw [c];omega),c];simp
  .rw [zAn (by rw [c];omega),d oM]
def aMW (b e) {n} (i:n < 4294967296):ofB (b++(nD n++e)) (b.length:Int)=(n,0):=by
 have j:=lM n;rw [ofB,zBw zt,zBw zt];have c:∀a,a < 4->(b++(nD n++e))[b.length+a]?=some (UInt8.ofNat (n / 256 ^ a % 256)):=λa g=>by rw [zAo oM,zDP,zAn oM];exact aLD 4 n a g
 simp only [ofN,zBr];rw [c 0 oM,c 1 oM,c 2 oM,c 3 oM];have f:∀d:Nat,(UInt8.ofNat (d % 256)).toNat=d % 256:=λd=>by simp [zEc]
 simp only [zFd,f];congr 1;simp only [Nat.reducePow,Nat.div_one,zBl];omega
def cX (a:Nat):Nat:=if a % 2=1 then (a / 2)^^^ 3988292384 else a / 2
def eB:Nat->Nat->Nat
 | 0,s=>s
 | k+1,s=>cX (eB k s)
def kJ (a:Nat):Nat:=eB 8 a
def mE:List UInt8->Nat->Nat
 | [],a=>a
 | c::r,a=>mE r (kJ ((a % 256)^^^ c.toNat)^^^(a / 256))
def aDi (b:Nat) (a:List UInt8):Nat:=4294967295 - mE a (4294967295 - b)
def lP (a:List UInt8):Nat:=aDi 0 a
def aG2 {a} (b:a < 4294967296):cX a < 4294967296:=by
 unfold cX;split;exact zEg (n:=32) oM oM;omega
def uZ {c:Nat} (b:c < 4294967296):∀a,eB a c < 4294967296
 | 0=>b
 | a+1=>aG2 (uZ b a)
def aCq {a} (b:a < 256):kJ a < 4294967296:=uZ oM 8
def aLQ {b:Nat} (c:b < 4294967296) (a:UInt8):(b % 256)^^^ a.toNat < 256:=zEg (n:=8) oM a.toNat_lt
def aLP {a:Nat} (c:a < 4294967296) (b:UInt8):kJ ((a % 256)^^^ b.toNat)^^^(a / 256) < 4294967296:=
 zEg (n:=32) (aCq (aLQ c b)) oM
def qH:∀(d:List UInt8) (b:Nat),b < 4294967296->mE d b < 4294967296
 | [],_,a=>a
 | c::r,b,a=>qH r _ (aLP a c)
def tK:∀(c:List UInt8) (a:UInt8) (b:Nat),mE (c++ [a]) b=kJ ((mE c b % 256)^^^ a.toNat)^^^(mE c b / 256)
 | [],_,_=>rfl
 | d::r,a,b=>tK r a _
def vA (a):lP a < 4294967296:=by
 unfold lP aDi;have:=qH a (4294967295 - 0) oM;omega
def eE (a:List UInt8):List UInt8:=bW a.length++(a++nD (lP a))
def gA:List UInt8:= [83,75,82,49]
def yO (d:List Nat) (a b:Nat):List UInt8:=(List.range (b / a+1)).flatMap λc=>bW (d.idxOf (c*a))
def jC (a:List Nat):List Int:=a.map λb:Nat=>(b:Int)
def gS (a:List Nat):List UInt8:=eO (bI (jC a))
def qI (c d:List Nat) (aA b a:Nat):List UInt8:=gA++(dZ [aA,b,a]++(eE (gS c)++eE (yO d b a)))
def fC (a d:List Nat) (aA c b:Nat):List UInt8:=qI a d aA c b++nD (lP (qI a d aA c b))
def aAk {d a r b c e} (f:d=a++(bW b++r)) (g:a.length=c) (ht:c+(bW b).length=e) (i:b < 18446744073709551616):fF d (c:Int)=(b,(e:Int),0):=by
 rw [f,<-ht,<-g];exact aLy a r i
structure SnAt (body:List UInt8) (aA rate N:Nat) (f s:List UInt8) (p1 p2 p3 p4 p5:Nat):Prop where
 e1:body=gA++(bW aA++(bW rate++(bW N++(eE f++eE s))))
 h1:4+(bW aA).length=p1
 h2:p1+(bW rate).length=p2
 h3:p2+(bW N).length=p3
 h4:p3+(eE f).length=p4
 h5:p4+(eE s).length=p5
def aAH (c d aA b a):qI c d aA b a=gA++(bW aA++(bW b++(bW a++(eE (gS c)++eE (yO d b a))))):=by
 unfold qI;simp [dZ]
def SnAt.of (c d aA b a):∃f g i j e,SnAt (qI c d aA b a) aA b a (gS c) (yO d b a) f g i j e/\(qI c d aA b a).length=e:=by
 refine ⟨_,_,_,_,_,⟨aAH c d aA b a,rfl,rfl,rfl,rfl,rfl⟩,?_⟩;rw [aAH];simp [gA];omega
def SnAt.n1 {b f n aA m e d i j k l} (c:SnAt b aA m e f n d i j k l) (g:aA < 18446744073709551616):fF b 4=(aA,(d:Int),0):=
 aAk (a:=gA) c.e1 rfl c.h1 g
def SnAt.n2 {e f j aA c d g i l m n} (b:SnAt e aA c d f j g i l m n) (k:c < 18446744073709551616):fF e (g:Int)=(c,(i:Int),0):=
 aAk (a:=gA++bW aA) (r:=bW d++(eE f++eE j)) (by rw [b.e1];simp) (by rw [zAi];have:=b.h1;have:gA.length=4:=rfl;omega) b.h2 k
def SnAt.n3 {d e j aA i c l f g m n} (b:SnAt d aA i c e j l f g m n) (k:c < 18446744073709551616):fF d (f:Int)=(c,(g:Int),0):=
 aAk (a:=gA++(bW aA++bW i)) (r:=eE e++eE j) (by rw [b.e1];simp) (by rw [zAi,zAi];have:=b.h1;have:=b.h2;have:gA.length=4:=rfl;omega) b.h3 k
def kW (a):(eE a).length=(bW a.length).length+(a.length+4):=by
 unfold eE;rw [zAi,zAi,lM]
def SnAt.f1 {c b l aA i e o p d f q} (a:SnAt c aA i e b l o p d f q) (n:b.length < 18446744073709551616):
 ∃g:Nat,fF c (d:Int)=(b.length,(g:Int),0)/\g+(b.length+4)=f/\(c.drop g).take b.length=b/\f<=c.length:=by
 have j:c=(gA++(bW aA++(bW i++bW e)))++(bW b.length++((b++nD (lP b))++eE l)):=by rw [a.e1];simp [eE]
 have k:(gA++(bW aA++(bW i++bW e))).length=d:=by simp only [zAi];have:=a.h1;have:=a.h2;have:=a.h3;have:gA.length=4:=rfl;omega
 refine ⟨d+(bW b.length).length,aAk j k rfl n,?_,?_,?_⟩;have:=a.h4;rw [kW] at this;omega
 .rw [j,<-zCo,List.drop_left' (by rw [zAi,k]),zCo,List.take_left' rfl]
 have v:=a.h5;have m:=congrArg List.length a.e1;simp only [zAi] at m;have r:=a.h1;have s:=a.h2;have t:=a.h3;have u:=a.h4;have w:gA.length=4:=rfl;omega
def SnAt.f2 {c f b aA j e o p q d g} (a:SnAt c aA j e f b o p q d g) (n:b.length < 18446744073709551616):
 ∃i:Nat,fF c (d:Int)=(b.length,(i:Int),0)/\i+(b.length+4)=g/\(c.drop i).take b.length=b/\g=c.length:=by
 have k:c=(gA++(bW aA++(bW j++(bW e++eE f))))++(bW b.length++((b++nD (lP b))++ [])):=by rw [a.e1];simp [eE]
 have l:(gA++(bW aA++(bW j++(bW e++eE f)))).length=d:=by simp only [zAi];have:=a.h1;have:=a.h2;have:=a.h3;have:=a.h4;have:gA.length=4:=rfl;omega
 refine ⟨d+(bW b.length).length,aAk k l rfl n,?_,?_,?_⟩;have:=a.h5;rw [kW] at this;omega
 .rw [k,<-zCo,List.drop_left' (by rw [zAi,l]),zCo,List.take_left' rfl]
 have v:=a.h5;have m:=congrArg List.length a.e1;simp only [zAi] at m;have r:=a.h1;have s:=a.h2;have t:=a.h3;have u:=a.h4;have w:gA.length=4:=rfl;omega
end
end Go.Proofs.YtknjfpcdhdmghaaGreatDoor
