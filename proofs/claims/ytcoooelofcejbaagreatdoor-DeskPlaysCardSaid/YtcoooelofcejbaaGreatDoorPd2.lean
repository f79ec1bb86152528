/- Lemmas of the walk. Conditions: each its own. -/
import Derived.Test.YtcoooelofcejbaaGreatDoorPd0
import Derived.Test.YtcoooelofcejbaaGreatDoorProg
set_option linter.all false
set_option maxRecDepth 100000
set_option maxHeartbeats 2000000
namespace Go.Proofs.YtcoooelofcejbaaGreatDoor
open Tryz
section
open Go.RowKit
def nD (b a:List UInt8) (d:Nat):List Nat:=(List.range d).filter fun c=>a.isPrefixOf (b.drop c)
def dD (b a:List UInt8):List Nat:=nD b a (b.length+1 - a.length)
def nv (a:Nat):Value:=iv (a:Int)
def aGf (b a:List UInt8) (c:Nat) (d:a.isPrefixOf (b.drop c)=false):nD b a (c+1)=nD b a c:=by
 simp [nD,List.range_succ,List.filter_append,d]
structure Told where
 code:Int
 num:Int
 data:List UInt8
 places:List Nat
def kH (a:Told) (b:Option Addr) (d:Nat) (c:Option Addr) (e:Nat):Array Value:=#[.int .i64 a.code,.int .i64 a.num,.slice b a.data.length d,.slice c a.places.length e]
def fH (d e c:Int) (a:Option Addr) (nd b:Nat):Value:=.agg #[.int .i64 d,.int .i64 e,.int .i64 c,.slice a nd b]
def eV (c:World) (a:Nat) (b:TypeId):Made c a b 1 none 0 0 []:=⟨World.ownsRow_nil _ _ _ _,Rd.nil _ _ _ _,zAs _,zAp _⟩
def jO (c:Nat) (a b:Int):Bool:=decide (0<=a/\0<=b/\a<=(c:Int)/\b<=(c:Int) - a)
def doM (a:List UInt8) (f d b e:Int) (c:List UInt8):List UInt8×Told:=
 if d=1 then
    if jO a.length b 0=false then (a,⟨2,0, [], []⟩) else if f -(a.length:Int) < (c.length:Int) then (a,⟨3,0, [], []⟩) else (a.take b.toNat++(c++a.drop b.toNat),⟨0,0, [], []⟩)
 else if d=2 then
    if jO a.length b e=false then (a,⟨2,0, [], []⟩) else (a.take b.toNat++a.drop (b.toNat+e.toNat),⟨0,0, [], []⟩)
 else if d=5 then
    if jO a.length b e=false then (a,⟨2,0, [], []⟩) else (a,⟨0,0,(a.drop b.toNat).take e.toNat, []⟩)
 else if d=3 then
    if jO a.length b (c.length:Int)=false then (a,⟨2,0, [], []⟩) else (a.take b.toNat++(c++a.drop (b.toNat+c.length)),⟨0,0, [], []⟩)
 else if d=4 then (a,⟨0,(a.length:Int), [], []⟩)
 else if d=6 then (a,⟨0,((dD a c).length:Int), [], []⟩)
 else if d=7 then (a,⟨0,((dD a c).length:Int), [],dD a c⟩)
 else if d=8 then (a,⟨0,0, [], []⟩)
 else (a,⟨1,0, [], []⟩)
def rE {f:Nat} {b a:Int} (e:jO f b a=true):∃c d:Nat,b=(c:Int)/\a=(d:Int)/\c+d<=f:=by
 unfold jO at e;have:=of_decide_eq_true e;exact ⟨b.toNat,a.toNat,by omega,by omega,by omega⟩
end
section
open Go.RowKit Go
section
variable {P : Program} {ops : Array Oper} {Q : Exit -> Act -> World -> Prop} {md : Region.Mode}
def aY (p:List Nat) {S:World->World->Prop} {V:Nat->Value->World->Prop} (f:Act) {d:World} (t:ops.toList.filterMap (·.dst)=p) (v:jW md ops f.tmps.size=true) (x:S d d) (A:∀a c,S d a->S a c->S d c) (y:∀b m a c,V b m a->S a c->V b m c) (z:∀j l,ops[j]?=some l->dX P ops Q md S V f d j l) (u:∀(i:Operand->Value) a,S d a->(∀b g,((ops[b]?).bind (·.dst))=some g->V b (i (.tmp g)) a)->Q .normal (cX i p f) a):
 wpAny P md ops Q ops.size (Array.replicate ops.size false) f d:=by
 refine kL (n:=ops.size) (C:=fun _ a=>S d a) (S:=fun _ _=>S) (U:=fun _ _=>True) (V:=fun b _=>V b) (by rw [vE];exact t) nL v (fun k b E s=>absurd s oM) x (fun _=>trivial) (fun _ _ _ _ _ a c _ _ _ _ e k=>A a c e k) (fun _ _ _ _ _ _ _ _ _ _ _ _=>trivial) (fun _ _ _ _ _ _ _ _ e=>e) (fun b _ _ _ _ m _ a c _ _ _ _ _ _ e _ k=>y b m a c e k) (fun j l _ w r a o _=>z j l w r a o) fun i a D o B _=>nC rfl (u i a o fun b g q=>B b g (aEe q) q)
end
section
variable {P : Program} {ops : Array Oper} {Q : Exit -> Act -> World -> Prop} {md : Region.Mode}
def tM {e:Nat} {r:List Nat} {f:World->Prop} {i:Nat->World->World->Prop} {j:Nat->World->Prop} {g:Nat->Value->World->Prop} {l:Act} {n:World} (B:(ops.toList.take e).filterMap (·.dst)=r) (H:e<=ops.size) (G:jW md ops l.tmps.size=true) (K:((List.range ops.size).all fun s=>decide (s < e)||(List.range e).all fun a=>upB md ops ops.size s a)=true) (x:f n) (z:∀a,j a n) (w:∀b c d,b < e->f c->i b c d->f d) (y:∀a b c d,b < e->a≠b->upB md ops ops.size b a=false->j a c->f c->i b c d->j a d) (I:∀a b k c d,b < e->a≠b->aGx md ops a b=false->g a k c->f c->i b c d->g a k d) (J:∀b t,b < e->ops[b]?=some t->dH P ops Q md f i j g l b t) (D:∀(m:Operand->Value) c o,f c->(∀a q,a < e->((ops[a]?).bind (·.dst))=some q->g a (m (.tmp q)) c)->(∀a,a < e->∃k,g a k c)->wpAny P md ops Q (ops.size - e+o) (bX e ops.size) (cX m r l) c):
 wpAny P md ops Q ops.size (Array.replicate ops.size false) l n:=by
 exact kL (C:=fun _=>f) (S:=fun b _=>i b) (U:=j) (V:=fun a _=>g a) B H G (aEO K) x z (fun b _ _ _ _ c d p _ _ _=>w b c d p) (fun a b _ _ c d=>y a b c d) (fun _ _ _ _ _ _ _ _ p=>p) (fun a b _ _ _ k _ c d F E _ _ u v=>I a b k c d F u (aEs E v)) J fun m c o A L M=>D m c o A L M
def aBO (e:Nat) (r:List Nat) (f:World->Prop) (g:Nat->World->World->Prop) (i:Nat->World->Prop) (j:Nat->Value->World->Prop) (k:Act)
 (n:World) (B:(ops.toList.take e).filterMap (·.dst)=r) (H:e<=ops.size) (G:jW md ops k.tmps.size=true) (K:((List.range ops.size).all fun s=>decide (s < e)||(List.range e).all fun b=>upB md ops ops.size s b)=true) (x:f n) (z:∀b,i b n) (w:∀a c d,a < e->f c->g a c d->f d)
 (y:∀b a c d,a < e->b≠a->upB md ops ops.size a b=false->i b c->f c->g a c d->i b d)
 (I:∀b a m c d,a < e->b≠a->aGx md ops b a=false->j b m c->f c->g a c d->j b m d)
 (J:∀a t,a < e->ops[a]?=some t->dH P ops Q md f g i j k a t)
 (D:∀(l:Operand->Value) c o,f c->(∀b q,b < e->((ops[b]?).bind (·.dst))=some q->j b (l (.tmp q)) c)->wpAny P md ops Q (ops.size - e+o) (bX e ops.size) (cX l r k) c):
 wpAny P md ops Q ops.size (Array.replicate ops.size false) k n:=by
 exact kL (C:=fun _=>f) (S:=fun a _=>g a) (U:=i) (V:=fun b _=>j b) B H G (aEO K) x z (fun a _ _ _ _ c d p _ _ _=>w a c d p) (fun b a _ _ c d=>y b a c d) (fun _ _ _ _ _ _ _ _ p=>p) (fun b a _ _ _ m _ c d F E _ _ u v=>I b a m c d F u (aEs E v)) J fun l c o A L _=>D l c o A L
def bY {d:Nat} {a:Oper} {b:Act} {e:World} {c:Act->World->Prop} (i:ops[d]?=some a) (g:a.guard=none) (f:Oper.upon P a b c Q ((execOp b.eval a).run P e)):wpOp P ops Q d c b e:=by
 unfold wpOp;simp only [i];have j:Region.wanted a (yielded ops b.tmps)=true:=by unfold Region.wanted;rw [g]
 rw [zBx j];exact .inl f
end
end
section
open Go.RowKit
def kJ {c:FuncId} {a:Func} (i:prog.funcs[c]?=some a) (j:(a.name== "runtime.NumGoroutine")=false) (f:a.body.isSome=true):∀b d,(callFunc c b).run prog d=.ok (.enter c b) d:=fun b d=>by
 have e:a.name≠ "runtime.NumGoroutine" :=by simpa using j
 obtain ⟨k,g⟩:=Option.isSome_iff_exists.1 f;simp [callFunc,i,e,g]
end
section
def kV:Nat->Nat->List UInt8
 | 0,_=> []
 | f+1,n=>if n=0 then [] else kV f (n / 128)++ [UInt8.ofNat (n % 128+128)]
def bS (a:Nat):List UInt8:=kV 10 (a / 128)++ [UInt8.ofNat (a % 128)]
def dE (a:List Nat):List UInt8:=a.flatMap bS
def eC:List UInt8->Bool->Nat->Nat->Option (Nat×Nat)
 | [],_,_,_=>none
 | c::r,first,acc,pos=>
   if (first&&c.toNat==128)||decide (144115188075855871 < acc) then none
   else if c.toNat < 128 then some (acc*128+c.toNat % 128,pos+1) else eC r false (acc*128+c.toNat % 128) (pos+1)
def eB (b:List UInt8) (a:Int):Nat×Int×Int:=
 if a < 0∨(b.length:Int) < a then (0,a,2)
 else match eC (b.drop a.toNat) true 0 a.toNat with
    | some (c,d)=>(c,d,0)
    | none=>(0,a,4)
def aA6:Nat->Nat->List UInt8
 | 0,_=> []
 | k+1,n=>aA6 k n++ [UInt8.ofNat (n / 256 ^ k % 256)]
def rH (a:Nat):List UInt8:=aA6 4 a
def ofN (b:List UInt8) (a:Nat):Nat->Nat
 | 0=>0
 | k+1=>ofN b a k+(b[a+k]?.getD 0).toNat*256 ^ k
def ofB (b:List UInt8) (a:Int):Nat×Int:=
 if a < 0∨(b.length:Int) < a then (0,2) else if (b.length:Int) - a < 4 then (0,4) else (ofN b a.toNat 4,0)
def aKg (c:List UInt8) (b:Nat) (a:Nat):ofN c b a < 256 ^ a:=by
 induction a with
 | zero=>simp [ofN]
 | succ a e=>
   have:(c[b+a]?.getD 0).toNat < 256:=UInt8.toNat_lt _;simp only [ofN,Nat.pow_succ];have d:(c[b+a]?.getD 0).toNat*256 ^ a<=255*256 ^ a:=Nat.mul_le_mul_right _ oM;omega
def lW (a:UInt8) (d:List UInt8) (first:Bool) (b c:Nat):eC (a::d) first b c=
 if (first&&a.toNat==128)||decide (144115188075855871 < b) then none
 else if a.toNat < 128 then some (b*128+a.toNat % 128,c+1) else eC d false (b*128+a.toNat % 128) (c+1):=by conv=>lhs;rw [eC]
def sX (a:Nat):kV a 0= []:=by cases a <;> simp [kV]
def aFZ (b:Nat):∀a,a < 128 ^ b->kV (b+1) a=kV b a:=by
 induction b with
 | zero=>intro a c;have:a=0:=by simpa using c
         subst this;simp [kV]
 | succ b e=>
   intro a c;by_cases d:a=0
   · subst d;simp [sX]
   · rw [kV,zBw d,e (a / 128) (by rw [Nat.div_lt_iff_lt_mul oM];rw [Nat.pow_succ] at c;exact c)]
     conv=>rhs;rw [kV,zBw d]
def aFY (a:Nat) (b:a≠0) (c:a < 128 ^ 10):kV 10 a=kV 10 (a / 128)++ [UInt8.ofNat (a % 128+128)]:=by
 rw [aFZ 9 (a / 128) oM]
 conv=>lhs;rw [kV,zBw b]
def aCi (a:Nat):∀b,(kV a b).length<=a:=by
 induction a with
 | zero=>intro b;simp [kV]
 | succ a c=>
   intro b;unfold kV;split
   · simp
   have:=c (b / 128);simp;omega
def bZ (a:Nat):(bS a).length<=11:=by
 have:=aCi 10 (a / 128);simp [bS];omega
def wQ (a:List Nat):(dE a).length<=11*a.length:=by
 induction a with
 | nil=>simp [dE]
 | cons b a c=>
   have:=bZ b;simp [dE] at c⊢;omega
def aCx {b:List Nat} {a:Nat} {c:Nat} (d:b[a]?=some c):dE (b.take (a+1))=dE (b.take a)++bS c:=by
 have e:a < b.length:=(zAc.1 d).1;rw [List.take_succ_eq_append_getElem e];have:b[a]=c:=(zAc.1 d).2;rw [this];simp [dE,List.flatMap_append]
def aJu {b c a:Nat} (f:c+1<=a) (e:a=0∨1<=b / 2 ^(7*a)):b / 2 ^(7*(c+1))≠0:=by
 have g:1<=b / 2 ^(7*a):=by rcases e with d | d <;> omega
 have i:b / 2 ^(7*a)<=b / 2 ^(7*(c+1)):=Nat.div_le_div_left (zBp oM oM) (Nat.pow_pos oM);omega
def aKj {a:Nat} (b:Nat) (c:a < 18446744073709551616):a / 2 ^(7*(b+1)) < 128 ^ 9:=by
 have d:a / 2 ^(7*(b+1))<=a / 2 ^ 7:=Nat.div_le_div_left (zBp oM oM) (Nat.pow_pos oM);omega
def aKv (b a:Nat):b / 2 ^(7*(a+1))=b / 2 ^(7*a)/ 128:=by
 rw [Nat.div_div_eq_div_mul,show 7*(a+1)=7*a+7 by omega,Nat.pow_add]
def aFN {b a:Nat} (e:b < 18446744073709551616) (f:a<=9) (d:128<=b / 2 ^(7*a)):a+1<=9:=by
 by_cases c:a=9;subst c;rw [Nat.le_div_iff_mul_le dC] at d;omega;omega
def pR (a:Nat):dE [a]=bS a:=by simp [dE]
def aGd (b:Nat):∀a e c,a < 128 ^ b->a < 144115188075855872->eC (kV b a++e) true 0 c=eC e (a==0) a (c+(kV b a).length):=by
 induction b with
 | zero=>intro a e c d _;have:a=0:=by simpa using d
         subst this;simp [kV]
 | succ b k=>
   intro a e c d l;by_cases f:a=0
   · subst f;simp [sX]
   · rw [kV,zBw f,zCo,k (a / 128) _ c (by rw [Nat.div_lt_iff_lt_mul oM];rw [Nat.pow_succ] at d;exact d) oM];rw [List.singleton_append,lW];have j:(UInt8.ofNat (a % 128+128)).toNat=a % 128+128:=(by simp [UInt8.toNat_ofNat'];omega);rw [j,zBw,zBw oM]
     · have i:a / 128*128+(a % 128+128)% 128=a:=oM;rw [i,zAi,List.length_singleton,Nat.add_assoc];have:(a==0)=false:=(by simp [f]);rw [this]
     by_cases g:a / 128=0;simp [g];omega;simp [g];omega
def oF {n:Nat} (d:n < 18446744073709551616) (c:List UInt8) (a:Nat):eC (bS n++c) true 0 a=some (n,a+(bS n).length):=by
 unfold bS;rw [zCo,aGd 10 (n / 128) _ a oM oM,List.singleton_append,lW];have b:(UInt8.ofNat (n % 128)).toNat=n % 128:=by simp [UInt8.toNat_ofNat'];omega
 rw [b,zBw,zBx oM,zAi,List.length_singleton];congr 2;omega;simp;omega
def aIk (a:Nat):0 < (bS a).length:=by simp [bS]
def aIc (b d:List UInt8) {a:Nat} (c:a < 18446744073709551616):eB (b++(bS a++d)) (b.length:Int)=(a,((b.length+(bS a).length:Nat):Int),0):=by
 rw [eB,zBw (by simp;omega)];simp only [zBr,List.drop_left];rw [oF c]
def ofNat_inj (a b:Nat) (d:a < 256) (e:b < 256):(UInt8.ofNat a=UInt8.ofNat b)↔a=b:=by
 constructor;intro c;have:=congrArg UInt8.toNat c;simp [UInt8.toNat_ofNat'] at this;omega
 · intro c;rw [c]
def cO (a:List (Int×Nat)) (b:Int):List (Int×Nat):=
 match a.getLast? with
 | some (c,d)=>if c=b then a.dropLast++ [(c,d+1)] else a++ [(b,1)]
 | none=> [(b,1)]
def bB (a:List Int):List (Int×Nat):=a.foldl cO []
def aB0 {b:List Int} {a:Nat} {d:Int} (c:b[a]?=some d):bB (b.take (a+1))=cO (bB (b.take a)) d:=by
 have e:a < b.length:=(zAc.1 c).1;rw [List.take_succ_eq_append_getElem e,(zAc.1 c).2];simp [bB,List.foldl_append]
def gC (c:List (Int×Nat)) (a:Int) (b:Nat):cO (c++ [(a,b)]) a=c++ [(a,b+1)]:=by simp [cO]
def fI (d:List (Int×Nat)) {b a:Int} (c:Nat) (e:b≠a):cO (d++ [(b,c)]) a=d++ [(b,c)]++ [(a,1)]:=by simp [cO,e]
def aB2 (a:Int):cO [] a= [(a,1)]:=by simp [cO]
def aB3 (a:List (Int×Nat)) (b:Int):(cO a b).length<=a.length+1/\a.length<=(cO a b).length:=by
 rcases List.eq_nil_or_concat a with rfl |⟨f,⟨d,e⟩,rfl⟩
 · simp [cO]
 · rw [List.concat_eq_append];by_cases c:d=b
   · subst c;rw [gC];simp
   · rw [fI _ _ c];simp
def lO (a:List Int):(bB a).length<=a.length:=by
 have e:∀(a:List Int) (b:List (Int×Nat)),(a.foldl cO b).length<=b.length+a.length:=by
  intro a
  induction a with
  | nil=>intro b;simp
  | cons c a d=>intro b;have:=d (cO b c);have f:=(aB3 b c).1;simp only [zCq,zCg];omega
 have:=e a [];simpa [bB] using this
def eD (b:List (Int×Nat)):List Int:=b.flatMap fun a=>List.replicate a.2 a.1
def aCv (a:List (Int×Nat)) (b:Int):eD (cO a b)=eD a++ [b]:=by
 rcases List.eq_nil_or_concat a with rfl |⟨f,⟨d,e⟩,rfl⟩
 · simp [cO,eD]
 · rw [List.concat_eq_append];by_cases c:d=b
   · subst c;rw [gC];simp [eD,List.flatMap_append,List.replicate_succ']
   · rw [fI _ _ c];simp [eD,List.flatMap_append]
def nG (a:List Int):eD (bB a)=a:=by
 have d:∀(a:List Int) (b:List (Int×Nat)),eD (a.foldl cO b)=eD b++a:=by
  intro a
  induction a with
  | nil=>intro b;simp
  | cons e a c=>intro b;rw [zCq,c,aCv];simp
 have:=d a [];simpa [bB,eD] using this
def tJ (a:List (Int×Nat)):Prop:=(∀e∈a,1<=e.2)/\a.Pairwise (fun _ _=>True)/\∀d b c,a[d]?=some b->a[d+1]?=some c->b.1≠c.1
def aDH {k:List (Int×Nat)} (l:Int) (s:tJ k):tJ (cO k l):=by
 obtain ⟨r,_,n⟩:=s;refine ⟨?_,List.pairwise_of_forall (by intros;trivial),?_⟩
 · rcases List.eq_nil_or_concat k with rfl |⟨g,⟨f,j⟩,rfl⟩
   · simp [cO]
   · rw [List.concat_eq_append] at*
     by_cases e:f=l
     · subst e;rw [gC];intro p c;rcases zCp.1 c with c | c;exact r p (List.mem_append_left _ c)
       · have:=List.mem_singleton.1 c;subst this;simp
     · rw [fI _ _ e];intro p c;rcases zCp.1 c with c | c;exact r p c
       · have:=List.mem_singleton.1 c;subst this;simp
 · intro d m q b a;rcases List.eq_nil_or_concat k with rfl |⟨g,⟨f,j⟩,rfl⟩
   · simp [cO] at a
   · rw [List.concat_eq_append] at*
     by_cases e:f=l
     · subst e;rw [gC] at b a;have o:d+1 < (g++ [(f,j+1)]).length:=(zAc.1 a).1;simp at o;by_cases i:d+1=g.length;rw [zAo oM,i] at a;simp at a;rw [zAn oM] at b;have:=n d m (f,j) (by rw [zAn oM];exact b) (by rw [zAo oM,i];simp);rw [<-a];exact this
       · rw [zAn oM] at b a;exact n d m q (by rw [zAn oM];exact b) (by rw [zAn oM];exact a)
     rw [fI _ _ e] at b a;have o:d+1 < (g++ [(f,j)]++ [(l,1)]).length:=(zAc.1 a).1;simp at o;by_cases i:d=g.length;subst i;rw [zAn (by simp)] at b;simp at b;rw [zAo (by simp)] at a;simp at a;rw [<-b,<-a];exact e;rw [zAn (by simp;omega)] at b a;exact n d m q b a
def zQ (a:List Int):tJ (bB a):=by
 have e:∀(a:List Int) (b:List (Int×Nat)),tJ b->tJ (a.foldl cO b):=by
  intro a
  induction a with
  | nil=>intro b c;exact c
  | cons f a d=>intro b c;exact d _ (aDH f c)
 exact e a [] ⟨by simp,List.Pairwise.nil,by simp⟩
def aEc (a:List (Int×Nat)) (d:Int×Nat) (b:d∈a):d.2<=(eD a).length:=by
 induction a with
 | nil=>cases b
 | cons c a f=>
   have e:eD (c::a)=List.replicate c.2 c.1++eD a:=(by simp [eD]);rw [e,zAi,zCn];rcases List.mem_cons.1 b with rfl | b;omega;have:=f b;omega
def pK {l:List Int} {x:Int×Nat} (a:x∈bB l):x.2<=l.length:=by
 have:=aEc _ x a;rwa [nG] at this
def iY (a:Int):Prop:=0<=a/\a < 257
instance (s:Int):Decidable (iY s):=inferInstanceAs (Decidable (_/\_))
def cG (a:Int×Nat):List UInt8:=bS a.1.toNat++bS a.2
def eL (a:List (Int×Nat)):List UInt8:=bS a.length++a.flatMap cG
def qP (a:List Int):Option (List UInt8):=if ∀b∈bB a,iY b.1 then some (eL (bB a)) else none
def tP (a:Int×Nat):(cG a).length<=22:=by
 have:=bZ a.1.toNat;have:=bZ a.2;simp [cG];omega
def yF {b:List (Int×Nat)} {a:Nat} {d:Int×Nat} (c:b[a]?=some d):(b.take (a+1)).flatMap cG=(b.take a).flatMap cG++cG d:=by
 have e:a < b.length:=(zAc.1 c).1;rw [List.take_succ_eq_append_getElem e,(zAc.1 c).2];simp [List.flatMap_append]
def tT (a:List (Int×Nat)):(a.flatMap cG).length<=22*a.length:=by
 induction a with
 | nil=>simp
 | cons b a c=>
   have:=tP b;rw [List.flatMap_cons,zAi,zCg];omega
def oQ (b:List UInt8) (a:Nat):Option (Nat×Nat×Nat):=
 match eC (b.drop a) true 0 a with
 | none=>none
 | some (f,c)=>
   match eC (b.drop c) true 0 c with
   | none=>none
   | some (e,d)=>some (f,e,d)
def rgo (c:List UInt8) (e:Nat):Nat->Nat->Nat->List Int->List Int×Int
 | 0,a,_,acc=>if a=c.length then (acc,0) else ([],4)
 | n+1,a,last,acc=>
   match oQ c a with
   | none=>([],4)
   | some (b,d,f)=>if 257<=b∨b=last∨d=0 then ([],4) else if e - acc.length < d then ([],3) else rgo c e n f b (acc++List.replicate d (b:Int))
def lV (a:List UInt8) (c:Int):List Int×Int:=
 match eC a true 0 0 with
 | none=>([],4)
 | some (d,b)=>rgo a c.toNat d b 257 []
def wN (f:List UInt8):∀first b d e c,eC f first b d=some (e,c)->d < c/\c<=d+f.length/\e < 18446744073709551616:=by
 induction f with
 | nil=>intro first b d e c a;rw [eC] at a;cases a
 | cons j l i=>
   intro first b d e c a
   rw [lW] at a;split at a
   · cases a
   · rename_i g
     split at a
     · injection a with a;injection a with h1 h2;subst h1;subst h2;have k:b<=144115188075855871:=(by rcases zBe 144115188075855871 b with a | a;exact absurd (by simp [a]) g;exact a);refine ⟨by omega,by simp,by omega⟩
     have:=i _ _ _ _ _ a;simp only [zCg];omega
def pO {b:List UInt8} {a:Nat} (d c:Nat) (f:a<=b.length) (e:eC (b.drop a) true 0 a=some (d,c)):eB b (a:Int)=(d,(c:Int),0):=by
 rw [eB,zBw oM];simp only [zBr,e]
def pP {b:List UInt8} {a:Nat} (d:a<=b.length) (c:eC (b.drop a) true 0 a=none):eB b (a:Int)=(0,(a:Int),4):=by
 rw [eB,zBw oM];simp only [zBr,c]
def aCc {b:List UInt8} (f g:Nat) {a:Nat} (e:Nat) (c:List Int) (d:oQ b a=none):rgo b f (g+1) a e c=([],4):=by simp only [rgo,d]
def aCb {d:List UInt8} (e j:Nat) {f:Nat} (i:Nat) (c:List Int) {a b g:Nat} (k:oQ d f=some (a,b,g)):
 rgo d e (j+1) f i c=if 257<=a∨a=i∨b=0 then ([],4) else if e - c.length < b then ([],3) else rgo d e j g a (c++List.replicate b (a:Int)):=by simp only [rgo,k]
def aB5 {b:List UInt8} {a:Nat} (c:eC (b.drop a) true 0 a=none):oQ b a=none:=by simp only [oQ,c]
def aB4 {b:List UInt8} {a f c:Nat} (d:eC (b.drop a) true 0 a=some (f,c)) (e:eC (b.drop c) true 0 c=none):oQ b a=none:=by simp only [oQ,d,e]
def vO {b:List UInt8} {a f c e d:Nat} (g:eC (b.drop a) true 0 a=some (f,c)) (i:eC (b.drop c) true 0 c=some (e,d)):oQ b a=some (f,e,d):=by simp only [oQ,g,i]
def nB (a:Nat):(rH a).length=4:=by simp [rH,aA6]
def aId (a e b:Nat) (g:b < a):(aA6 a e)[b]?=some (UInt8.ofNat (e / 256 ^ b % 256)):=by
 induction a with
 | zero=>omega
 | succ a d=>
   have c:∀a,(aA6 a e).length=a:=fun a=>by induction a with
    | zero=>rfl
    | succ a d=>simp [aA6,d]
   rw [aA6];by_cases f:b=a
   · subst f;rw [zAo (by rw [c];omega),c];simp
   · rw [zAn (by rw [c];omega),d oM]
def aJp (b e:List UInt8) {n:Nat} (i:n < 4294967296):ofB (b++(rH n++e)) (b.length:Int)=(n,0):=by
 have j:=nB n;rw [ofB,zBw (by simp;omega),zBw (by simp;omega)];have c:∀a,a < 4->(b++(rH n++e))[b.length+a]?=some (UInt8.ofNat (n / 256 ^ a % 256)):=fun a g=>by rw [zAo oM,Nat.add_sub_cancel_left,zAn oM];exact aId 4 n a g
 simp only [ofN,zBr];rw [c 0 oM,c 1 oM,c 2 oM,c 3 oM];have f:∀d:Nat,(UInt8.ofNat (d % 256)).toNat=d % 256:=fun d=>by simp [UInt8.toNat_ofNat']
 simp only [Option.getD_some,f];congr 1;simp only [Nat.reducePow,Nat.div_one,zBl];omega
def lY (a:Nat):Nat:=if a % 2=1 then (a / 2)^^^ 3988292384 else a / 2
def tW:Nat->Nat->Nat
 | 0,s=>s
 | k+1,s=>lY (tW k s)
def jF (a:Nat):Nat:=tW 8 a
def tX:List UInt8->Nat->Nat
 | [],a=>a
 | c::r,a=>tX r (jF ((a % 256)^^^ c.toNat)^^^(a / 256))
def aBa (b:Nat) (a:List UInt8):Nat:=4294967295 - tX a (4294967295 - b)
def lD (a:List UInt8):Nat:=aBa 0 a
def aEg {a:Nat} (b:a < 4294967296):lY a < 4294967296:=by
 unfold lY;split;exact Nat.xor_lt_two_pow (n:=32) oM oM;omega
def wR {c:Nat} (b:c < 4294967296):∀a,tW a c < 4294967296
 | 0=>b
 | a+1=>aEg (wR b a)
def aAf {a:Nat} (b:a < 256):jF a < 4294967296:=wR oM 8
def aIx {b:Nat} (c:b < 4294967296) (a:UInt8):(b % 256)^^^ a.toNat < 256:=Nat.xor_lt_two_pow (n:=8) oM a.toNat_lt
def aIw {a:Nat} (c:a < 4294967296) (b:UInt8):jF ((a % 256)^^^ b.toNat)^^^(a / 256) < 4294967296:=
 Nat.xor_lt_two_pow (n:=32) (aAf (aIx c b)) oM
def rL:∀(d:List UInt8) (b:Nat),b < 4294967296->tX d b < 4294967296
 | [],_,a=>a
 | c::r,b,a=>rL r _ (aIw a c)
def wS:∀(c:List UInt8) (a:UInt8) (b:Nat),tX (c++ [a]) b=jF ((tX c b % 256)^^^ a.toNat)^^^(tX c b / 256)
 | [],_,_=>rfl
 | d::r,a,b=>wS r a _
def rM (a:List UInt8):lD a < 4294967296:=by
 unfold lD aBa;have:=rL a (4294967295 - 0) oM;omega
def dP (a:List UInt8):List UInt8:=bS a.length++(a++rH (lD a))
def gF:List UInt8:= [83,75,82,49]
def uI (d:List Nat) (a b:Nat):List UInt8:=(List.range (b / a+1)).flatMap fun c=>bS (d.idxOf (c*a))
def iM (a:List Nat):List Int:=a.map fun b:Nat=>(b:Int)
def fG (a:List Nat):List UInt8:=eL (bB (iM a))
def oS (c e:List Nat) (d b a:Nat):List UInt8:=gF++(dE [d,b,a]++(dP (fG c)++dP (uI e b a)))
def dN (a e:List Nat) (c d b:Nat):List UInt8:=oS a e c d b++rH (lD (oS a e c d b))
def vX {d a r:List UInt8} {b c e:Nat} (f:d=a++(bS b++r)) (g:a.length=c) (j:c+(bS b).length=e) (i:b < 18446744073709551616):eB d (c:Int)=(b,(e:Int),0):=by
 rw [f,<-j,<-g];exact aIc a r i
structure SnAt (body:List UInt8) (most rate N:Nat) (f s:List UInt8) (p1 p2 p3 p4 p5:Nat):Prop where
 e1:body=gF++(bS most++(bS rate++(bS N++(dP f++dP s))))
 h1:4+(bS most).length=p1
 h2:p1+(bS rate).length=p2
 h3:p2+(bS N).length=p3
 h4:p3+(dP f).length=p4
 h5:p4+(dP s).length=p5
def aCD (c e:List Nat) (d b a:Nat):oS c e d b a=gF++(bS d++(bS b++(bS a++(dP (fG c)++dP (uI e b a))))):=by
 unfold oS;simp [dE]
def SnAt.of (c e:List Nat) (d b a:Nat):∃g i j k f,SnAt (oS c e d b a) d b a (fG c) (uI e b a) g i j k f/\(oS c e d b a).length=f:=by
 refine ⟨_,_,_,_,_,⟨aCD c e d b a,rfl,rfl,rfl,rfl,rfl⟩,?_⟩;rw [aCD];simp [gF];omega
def SnAt.n1 {c g o:List UInt8} {b n f e j k l m:Nat} (d:SnAt c b n f g o e j k l m) (i:b < 18446744073709551616):eB c 4=(b,(e:Int),0):=
 vX (a:=gF) d.e1 rfl d.h1 i
def SnAt.n2 {e f k:List UInt8} {g c d i j m n o:Nat} (b:SnAt e g c d f k i j m n o) (l:c < 18446744073709551616):eB e (i:Int)=(c,(j:Int),0):=
 vX (a:=gF++bS g) (r:=bS d++(dP f++dP k)) (by rw [b.e1];simp) (by rw [zAi];have:=b.h1;have:gF.length=4:=rfl;omega) b.h2 l
def SnAt.n3 {d e k:List UInt8} {f j c m g i n o:Nat} (b:SnAt d f j c e k m g i n o) (l:c < 18446744073709551616):eB d (g:Int)=(c,(i:Int),0):=
 vX (a:=gF++(bS f++bS j)) (r:=dP e++dP k) (by rw [b.e1];simp) (by rw [zAi,zAi];have:=b.h1;have:=b.h2;have:gF.length=4:=rfl;omega) b.h3 l
def gR (a:List UInt8):(dP a).length=(bS a.length).length+(a.length+4):=by
 unfold dP;rw [zAi,zAi,nB]
def SnAt.f1 {c b m:List UInt8} {f j e p q d g r:Nat} (a:SnAt c f j e b m p q d g r) (o:b.length < 18446744073709551616):
 ∃i:Nat,eB c (d:Int)=(b.length,(i:Int),0)/\i+(b.length+4)=g/\(c.drop i).take b.length=b/\g<=c.length:=by
 have k:c=(gF++(bS f++(bS j++bS e)))++(bS b.length++((b++rH (lD b))++dP m)):=by rw [a.e1];simp [dP]
 have l:(gF++(bS f++(bS j++bS e))).length=d:=by simp only [zAi];have:=a.h1;have:=a.h2;have:=a.h3;have:gF.length=4:=rfl;omega
 refine ⟨d+(bS b.length).length,vX k l rfl o,?_,?_,?_⟩;have:=a.h4;rw [gR] at this;omega
 · rw [k,<-zCo,List.drop_left' (by rw [zAi,l]),zCo,List.take_left' rfl]
 have w:=a.h5;have n:=congrArg List.length a.e1;simp only [zAi] at n;have s:=a.h1;have t:=a.h2;have u:=a.h3;have v:=a.h4;have x:gF.length=4:=rfl;omega
def SnAt.f2 {c f b:List UInt8} {g k e p q r d i:Nat} (a:SnAt c g k e f b p q r d i) (o:b.length < 18446744073709551616):
 ∃j:Nat,eB c (d:Int)=(b.length,(j:Int),0)/\j+(b.length+4)=i/\(c.drop j).take b.length=b/\i=c.length:=by
 have l:c=(gF++(bS g++(bS k++(bS e++dP f))))++(bS b.length++((b++rH (lD b))++ [])):=by rw [a.e1];simp [dP]
 have m:(gF++(bS g++(bS k++(bS e++dP f)))).length=d:=by simp only [zAi];have:=a.h1;have:=a.h2;have:=a.h3;have:=a.h4;have:gF.length=4:=rfl;omega
 refine ⟨d+(bS b.length).length,vX l m rfl o,?_,?_,?_⟩;have:=a.h5;rw [gR] at this;omega
 · rw [l,<-zCo,List.drop_left' (by rw [zAi,m]),zCo,List.take_left' rfl]
 have w:=a.h5;have n:=congrArg List.length a.e1;simp only [zAi] at n;have s:=a.h1;have t:=a.h2;have u:=a.h3;have v:=a.h4;have x:gF.length=4:=rfl;omega
def aP {α:Type} (b:List α) (a:Nat) (c:α):List α:=b.take a++c::b.drop a
def aG {α:Type} (b:List α) (a:Nat):List α:=b.take a++b.drop (a+1)
def fJ {α:Type} (a:List α) {b:Nat} (c:α) (d:b<=a.length):(aP a b c).length=a.length+1:=by
 unfold aP;rw [zAi,zAj,zCg,zAw];omega
def cM {α:Type} {l:List α} {k:Nat} (a:k < l.length):(aG l k).length+1=l.length:=by
 unfold aG;rw [zAi,zAj,zAw];omega
def iE {α:Type} (c:List α) {a:Nat} (g:α) (j:a<=c.length) (b:Nat):(aP c a g)[b]?=if b < a then c[b]? else if b=a then some g else c[b - 1]?:=by
 unfold aP;have i:(c.take a).length=a:=by rw [zAj];omega
 by_cases e:b < a
 · rw [zBx e,zAn oM,zBs,zBx e]
 · rw [zBw e,zAo oM,i];by_cases f:b=a;subst f;rw [zBx rfl,Nat.sub_self];rfl
   · rw [zBw f];obtain ⟨d,rfl⟩:∃d,b=a+d+1:=⟨b - a - 1,by omega⟩;rw [show a+d+1 - a=d+1 by omega,zCf,zBt];congr 1
def dQ {α:Type} {c:List α} {a:Nat} (f:a < c.length) (b:Nat):(aG c a)[b]?=if b < a then c[b]? else c[b+1]?:=by
 unfold aG;have e:(c.take a).length=a:=by rw [zAj];omega
 by_cases d:b < a
 · rw [zBx d,zAn oM,zBs,zBx d]
 rw [zBw d,zAo oM,e,zBt];congr 1;omega
def mZ {α β:Type} (a:α->β) (c:List α) (b:Nat) (d:α):(aP c b d).map a=aP (c.map a) b (a d):=by simp [aP]
def rJ {α β:Type} (a:α->β) (c:List α) (b:Nat):(aG c b).map a=aG (c.map a) b:=by simp [aG]
def eO {α:Type} (a:List α) (c:Nat) (b:α):(aP a c b).Perm (b::a):=by
 unfold aP;exact (List.perm_middle).trans (by rw [zAu])
def eE {α:Type} {a:List α} {b:Nat} {c:α} (e:a[b]?=some c):(c::aG a b).Perm a:=by
 obtain ⟨f,g⟩:=zAc.1 e;have d:a=a.take b++c::a.drop (b+1):=by rw [<-g,<-zAx f,zAu]
 unfold aG;exact (List.perm_middle.symm).trans (by rw [<-d])
def oE {b:List Bool} {c:Nat} (d:Bool) (e:c<=b.length) (a:Nat):(aP b c d).getD a false=if a < c then b.getD a false else if a=c then d else b.getD (a - 1) false:=by
 rw [zAb,iE b d e];split
 · rw [zAb]
 · split;rfl
   · rw [zAb]
def oJ {b:List Bool} {c:Nat} (d:c < b.length) (a:Nat):(aG b c).getD a false=if a < c then b.getD a false else b.getD (a+1) false:=by
 rw [zAb,dQ d];split
 · rw [zAb]
 · rw [zAb]
def aFy (d:List Bool) (c b:Nat):(d.take c).getD b false=(decide (b < c)&&d.getD b false):=by
 rw [zAb,zBs];by_cases a:b < c
 · rw [zBx a,zAb];simp [a]
 · rw [zBw a];simp [a]
def aGl (b:List Bool) (c a:Nat):(b.drop c).getD a false=b.getD (c+a) false:=by
 rw [zAb,zBt,zAb]
end
section
open Go.RowKit
def jV:(prog.info? 5).map (fun a=>(a.zero,a.size,a.bytes))=some (some (.int .u8 0),1,1):=by kernel_rfl
def uv (a:Nat):Value:=.int .u64 (a:Int)
def aKO (a:Nat):bits .or .u8 ((a:Int)% 256) 128=((a % 128+128:Nat):Int):=by
 have c:∀b:Fin 256,bits .or .u8 ((b.val:Nat):Int) 128=((b.val % 128+128:Nat):Int):=by decide+kernel
 have:=c ⟨a % 256,by omega⟩;simp only at this;rw [show ((a:Int)% 256)=((a % 256:Nat):Int) by omega,this];omega
def aKE (a:Nat):bits .and .u8 ((a:Int)% 256) 127=((a % 128:Nat):Int):=by
 have c:∀b:Fin 256,bits .and .u8 ((b.val:Nat):Int) 127=((b.val % 128:Nat):Int):=by decide+kernel
 have:=c ⟨a % 256,by omega⟩;simp only at this;rw [show ((a:Int)% 256)=((a % 256:Nat):Int) by omega,this];omega
def aKS (b a:Nat):Value.int .u8 (bits .or .u8 ((b:Int)/ 2 ^ a % 256) 128)=bv (UInt8.ofNat (b / 2 ^ a % 128+128)):=by
 have:((b:Int)/ 2 ^ a)=((b / 2 ^ a:Nat):Int):=by push_cast;rfl
 rw [this,aKO];unfold bv;congr 1;simp [UInt8.toNat_ofNat'];omega
def aKB (a:Nat):Value.int .u8 (bits .and .u8 ((a:Int)% 256) 127)=bv (UInt8.ofNat (a % 128)):=by
 rw [aKE];unfold bv;congr 1;simp [UInt8.toNat_ofNat'];omega
def aJR {y:Option Addr} {i:Nat} (R:Nat) {e:List Nat} {c:World} (w:Rd c c.heap.size 1 y i (e.map uv)) (D:∀b∈e,b < 18446744073709551616) (af:i<=100000):
 Calls prog 133 #[.slice y i R] c fun S K=>∃l a,S=.returned l/\K.ownsRow c.heap.size 5 1 l a ((dE e).map bv)/\Below c.heap.size c K:=by
 obtain ⟨J,C,G,H,I⟩:=info_parts jV;obtain ⟨O,M⟩:=hqq2 w D;have E:=w.1;have A:=lhd E;clear w D E;go_enter func133,ntmps133;go_wp2;go_loopw [3,9] (fun l g wr=>∃a r:Nat,a<=i/\g=.int .i64 a/\wr.ownsRow c.heap.size 5 1 l r ((dE (e.take a)).map bv)/\Below c.heap.size c wr) (fun _ g _=>i -(intOf g).toNat)
 case atStart=>exact ⟨0,0,zAp _,rfl,World.ownsRow_nil _ _ _ _,Below.refl _ _⟩
 case round=>
  obtain ⟨a,r,ae,rfl,v,s⟩:=hrel;by_cases a4:a < i
  · have a8:∃b,e[a]?=some b:=(by have:=A.out;simp at this;exact ⟨e[a]' oM,zAa oM⟩);obtain ⟨b,q⟩:=a8;obtain ⟨ab,ah,ai,rfl,ad,x,Y⟩:=(O.out.below s).get a4;rw [zAf,q] at x;simp at x;subst x;unfold uv at Y;have F:b < 18446744073709551616:=M.out b (zAd q);obtain ⟨N,z⟩:=hqq2 q F;clear q F;go_wp2
    go_loop [6] (fun k=>∃d:Nat,d<=9/\k=.int .i64 (7*(d:Int))/\(d=0∨1<=b / 2 ^(7*d))) (fun k=>100 -(intOf k).toNat)
    case atStart=>exact ⟨0,by omega,rfl,.inl rfl⟩
    case round=>
        obtain ⟨d,a0,rfl,Z⟩:=hrel;go_wp2
        · have W:(128:Int)<=(b:Int)/ 2 ^(7*d):=(by assumption);have X:128<=b / 2 ^(7*d):=(by exact_mod_cast W);have a2:=aFN z.out a0 X;refine ⟨⟨d+1,a2,by go_num,.inr (by rw [aKv];omega)⟩,by simp [intOf];omega⟩
        · have a6:(b:Int)/ 2 ^(7*d) < 128:=(by assumption);have a7:b / 2 ^(7*d) < 128:=(by exact_mod_cast a6);go_loopw [3,6] (fun l k L=>∃f j:Nat,f<=d/\k=.int .i64 (7*(f:Int))/\L.ownsRow c.heap.size 5 1 l j ((dE (e.take a)++kV 10 (b / 2 ^(7*(f+1)))).map bv)/\Below c.heap.size c L) (fun _ k _=>(intOf k).toNat)
          case atStart=>exact ⟨d,r,zAs _,rfl,by rw [aKv,Nat.div_eq_of_lt a7];simpa [sX] using v,s⟩
          case round=>
           obtain ⟨f,j,a1,rfl,m,t⟩:=hrel;have o:=t.size;have ag:j<=1100010:=(by have U:=m.1;have V:=wQ (e.take a);have ac:=aCi 10 (b / 2 ^(7*(f+1)));simp at U V;omega);by_cases T:f=0
           · subst T;go_wp2_with (at_builtin;refine bP _ rfl (.tmp 33) (.tmp 37) _ rfl c.heap.size 5 J (.int .u8 0) 1 1 underlying34 C G H I rfl dC u3 j _ rfl m rfl rfl (by simp [Value.oneCell']) (by unfold maxLen;omega) oM o ?_;intro a9 aa n p a5 B);have u:=bC t m p o;clear p B;go_roundw
             case rel=>refine ⟨a+1,j+1,by omega,by go_num,?_,u⟩;rw [aCx N.out];rw [aKB] at n;simpa [bS] using n
             case measure=>simp [intOf];omega
           · go_wp2_with (at_builtin;refine bP _ rfl (.tmp 24) (.tmp 31) _ rfl c.heap.size 5 J (.int .u8 0) 1 1 underlying34 C G H I rfl dC u3 j _ rfl m rfl rfl (by simp [Value.oneCell']) (by unfold maxLen;omega) oM o ?_;intro a9 aa n p a5 B);have u:=bC t m p o;refine ⟨⟨f - 1,j+1,by omega,dV oM,?_,u⟩,by simp [intOf];omega⟩;rw [aKS] at n;obtain ⟨g,rfl⟩:∃g,f=g+1:=⟨f - 1,by omega⟩;rw [zBb,aFY (b / 2 ^(7*(g+1))),<-aKv];simpa using n;exact aJu a1 Z;exact zAl (aKj g z.out) dC
  · have a3:a=i:=oM;subst a3;go_wp2;go_ret;refine ⟨u3,r,rfl,?_,s⟩;have:e.take a=e:=zAg (by have:=A.out;simp at this;omega);rw [this] at v;exact v
def aJS {i:Option Addr} {f:Nat} (k:Nat) {j:Nat} {a:List Nat} {b:World} (s:Rd b j 1 i f (a.map uv)) (n:j<=b.heap.size) (r:∀u∈a,u < 18446744073709551616) (e:f<=100000):
 Calls prog 133 #[.slice i f k] b fun l g=>∃c d,l=.returned (.slice c (dE a).length d)/\Made g b.heap.size 5 1 c (dE a).length d ((dE a).map bv)/\Below b.heap.size b g:=by
 refine (aJR k (s.mono n) r e).mono fun l g ⟨v,t,p,m,o⟩=>?_;have q:(dE a).length=t:=by simpa using m.1
 subst q;obtain ⟨c,d,rfl,e⟩:=aR m;exact ⟨c,d,p,e,o⟩
def xT {c:Option Addr} {b:Nat} (f:Nat) {e:Nat} {l:List Nat} {a:World} {bs:List UInt8} {k:Nat} (n:dE l=bs) (o:bs.length=k) (r:Rd a e 1 c b (l.map uv)) (m:e<=a.heap.size) (p:∀s∈l,s < 18446744073709551616) (q:b<=100000):
 Calls prog 133 #[.slice c b f] a fun j i=>∃d g,j=.returned (.slice d k g)/\Made i a.heap.size 5 1 d k g (bs.map bv)/\Below a.heap.size a i:=by
 subst n;subst o;exact aJS f r m p q
def jR (a:Int×Nat):List Value:= [iv a.1,iv (a.2:Int)]
def bU (a:List (Int×Nat)):List Value:=a.flatMap jR
def qN (a:List (Int×Nat)):(bU a).length=a.length*2:=by
 induction a with
 | nil=>rfl
 | cons b a d=>
   have c:bU (b::a)=jR b++bU a:=(by simp [bU]);rw [c,zAi,d,zCg];simp [jR];omega
def iJ (a b:List (Int×Nat)):bU (a++b)=bU a++bU b:=by simp [bU,List.flatMap_append]
def iO (b:List (Int×Nat)) (a d:Nat) (g:Int×Nat) (c:b[a]?=some g) (k:d < 2):(bU b)[a*2+d]?=(jR g)[d]?:=by
 induction b generalizing a with
 | nil=>simp at c
 | cons e b j=>
   have f:bU (e::b)=jR e++bU b:=(by simp [bU]);have i:(jR e).length=2:=rfl;rcases a with _ | a
   · simp at c;subst c;rw [f,Nat.zero_mul,zBi,zAn oM]
   simp only [zCf] at c;rw [f,zAo oM,i,show (a+1)*2+d - 2=a*2+d by omega];exact j a c
def aHr:(prog.info? 236).map (fun a=>(a.zero,a.size,a.bytes))=some (some (.agg #[.int .i64 0,.int .i64 0]),2,16):=by kernel_rfl
def aKI {J:Option Addr} {j:Nat} (a2:Nat) {K:Nat} {f:List Int} {g:World} (F:Rd g K 1 J j (f.map iv)) (ab:K<=g.heap.size) (aB:j<=1099511627776):
 Calls prog 205 #[.slice J j a2] g fun a4 Z=>∃w,a4=.returned w/\Z.ownsRow g.heap.size 236 2 w (bB f).length (bU (bB f))/\Below g.heap.size g Z:=by
 obtain ⟨Y,L,V,W,X⟩:=info_parts aHr;have O:f.length=j:=by simpa using F.1
 obtain ⟨x,a1⟩:=hqq2 O (F.mono ab);clear F O;go_enter func205,ntmps205;go_wp2;go_loopw [3,9] (fun w I wr=>∃c:Nat,c<=j/\I=.int .i64 c/\wr.ownsRow g.heap.size 236 2 w (bB (f.take c)).length (bU (bB (f.take c)))/\Below g.heap.size g wr) (fun _ I _=>j -(intOf I).toNat)
 case atStart=>exact ⟨0,zAp _,rfl,World.ownsRow_nil _ _ _ _,Below.refl _ _⟩
 case round=>
  obtain ⟨c,aA,rfl,e,m⟩:=hrel;have v:=m.size;by_cases ah:c < j
  · obtain ⟨o,G⟩:∃o,f[c]?=some o:=⟨f[c]'(by have:=x.out;omega),zAa (by have:=x.out;omega)⟩;obtain ⟨ap,aF,aG,rfl,aw,H,ac⟩:=(a1.out.below m).get ah;rw [zAf,G] at H;simp at H;subst H;unfold iv at ac;have R:=aB0 G;have N:=lO (f.take c);rw [zAj] at N;have D:∀b∈bB (f.take c),b.2<=j:=fun b al=>by have:=pK al;rw [zAj] at this;omega
    generalize bB (f.take c)=r at*
    have y:=lhd R;clear R G;rcases List.eq_nil_or_concat r with rfl |⟨k,⟨b,d⟩,rfl⟩
    · obtain ⟨a0,a3,rfl,ai⟩:=aR e;have ag:([]:List (Int×Nat)).length=0:=rfl;rw [ag] at*
      clear ai D;go_wp2_with (at_builtin;refine bP _ rfl (.tmp 36) (.tmp 39) _ rfl g.heap.size 236 Y _ 2 16 underlying233 L V W X rfl dC (.slice a0 0 a3) 0 _ rfl e rfl rfl (by simp [Value.oneCell']) (by unfold maxLen;omega) oM v ?_;intro an ao E q aj B);have C:=bC m e q v;clear q B;go_roundw
      case rel=>refine ⟨c+1,by omega,by go_num,?_,C⟩;rw [y.out,aB2];exact E
      case measure=>simp [intOf];omega
    · rw [List.concat_eq_append] at*
      obtain ⟨a,s⟩:=eqx k.length;have M:(k++ [(b,d)]).length=a+1:=(by simp [s]);rw [M] at e N;obtain ⟨i,l,u,rfl,ad,ae,aD,ax,_⟩:∃i l u,u3=.slice (some ⟨i,0,none⟩) (a+1) l/\g.heap.size<=i/\wr.heap[i]?=some (.cells u 236 (0,0))/\a+1<=l/\l<=maxLen/\True:=(by rcases e.2 with ⟨_,av⟩|⟨i,l,u,a6,a7,a8,a9,aa,_⟩;omega;exact ⟨i,l,u,a6,a7,a8,a9,aa,trivial⟩);have T:(bU (k++ [(b,d)]))[a*2]?=some (iv b):=(by have:=iO (k++ [(b,d)]) a 0 (b,d) (by rw [zAo oM,s];simp) oM;simpa [jR] using this);have U:(bU (k++ [(b,d)]))[a*2+1]?=some (iv d):=(by have:=iO (k++ [(b,d)]) a 1 (b,d) (by rw [zAo oM,s];simp) oM;simpa [jR] using this);have ar:wr.cell? ⟨i,a*2,none⟩=some (.int .i64 b):=(e.cellAt (a*2) oM).trans T;have au:wr.cell? ⟨i,a*2+1,none⟩=some (.int .i64 (d:Int)):=(e.cellAt (a*2+1) oM).trans U;have aq:=e.frozenAt (a*2+1);have aC:(d:Int)<=1099511627776:=(by have:=D (b,d) (by simp);simp only at this;omega);have aE:((a+1:Nat):Int) - 1=(a:Int):=oM;have t:=lhd s;clear T U s M ae D;by_cases n:b=o
      · have am:(b==o)=true:=(by rw [zCr];exact n);have z:=lhd n;clear n;go_wp2;obtain ⟨ak,az⟩:=e.stored (a*2+1) (.int .i64 ((d:Int)+1));refine ⟨⟨c+1,by omega,by go_num,?_,m.setCell (p:=⟨i,a*2+1,none⟩) ad _⟩,by simp [intOf];omega⟩;rw [y.out,<-z.out,gC];have A:(k++ [(b,d+1)]).length=a+1:=(by simp [t.out]);have a5:(bU (k++ [(b,d)])).set (a*2+1) (.int .i64 ((d:Int)+1))=bU (k++ [(b,d+1)]):=(by rw [iJ,iJ,List.set_append_right _ _ (by rw [qN,t.out];omega),qN,t.out];congr 1;rw [show a*2+1 - a*2=1 by omega];rfl);rw [A,<-a5];exact ak
      · have am:(b==o)=false:=(by rw [zCb];exact n);have z:=lhd n;clear n;go_wp2_with (at_builtin;refine bP _ rfl (.tmp 36) (.tmp 39) _ rfl g.heap.size 236 Y _ 2 16 underlying233 L V W X rfl dC (.slice (some ⟨i,0,none⟩) (a+1) l) (a+1) _ rfl e rfl rfl (by simp [Value.oneCell']) (by unfold maxLen;omega) oM v ?_;intro an ao E q aj B);have C:=bC m e q v;clear q B;go_roundw
        case rel=>refine ⟨c+1,by omega,by go_num,?_,C⟩;rw [y.out,fI _ _ z.out,iJ];have A:(k++ [(b,d)]++ [(o,1)]).length=a+1+1:=(by simp [t.out]);rw [A];exact E
        case measure=>simp [intOf];omega
  · have af:c=j:=oM;have S:f.take c=f:=zAg (by have:=x.out;omega);have ay:j<=c:=oM;rw [S] at e;clear af S;go_wp2;go_ret;exact ⟨u3,rfl,e,m⟩
def aIO {j:Option Addr} {e:Nat} (l:Nat) {k:Nat} {n:List Int} {a:World} {g:List (Int×Nat)} (f:Nat) (o:bB n=g) (s:g.length=f) (u:Rd a k 1 j e (n.map iv)) (p:k<=a.heap.size) (d:e<=1099511627776):
 Calls prog 205 #[.slice j e l] a fun m i=>∃b c,m=.returned (.slice b f c)/\Made i a.heap.size 236 2 b f c (bU g)/\Below a.heap.size a i:=by
 subst o;subst s;refine (aKI l u p d).mono fun m i ⟨v,r,t,q⟩=>?_;obtain ⟨b,c,rfl,d⟩:=aR t;exact ⟨b,c,r,d,q⟩
end
section
def uJ (b:List UInt8) (a:Nat) (c:List UInt8):List UInt8:=b.take a++(c++b.drop a)
def aH2 (a:List UInt8) (b:Nat):uJ a b []=a:=by
 unfold uJ;rw [List.nil_append,zAu]
def vZ {t:List UInt8} {k:Nat} (a:List UInt8) (b:k<=t.length):(uJ t k a).length=t.length+a.length:=by
 unfold uJ;rw [zAi,zAi,zAj,zAw];omega
def aH3 {t:List UInt8} {a:Nat} (b:List UInt8) (c:UInt8) (e:a<=t.length):aP (uJ t a b) (a+b.length) c=uJ t a (b++ [c]):=by
 have d:(t.take a).length=a:=by rw [zAj];omega
 unfold aP uJ;rw [List.take_append,List.drop_append,d,Nat.add_sub_cancel_left,List.take_append_of_le_length nL,List.take_length,List.drop_append_of_le_length nL,List.drop_length,zAg oM,List.drop_of_length_le oM];simp
def aIu {t:List UInt8} {a b:Nat} (d:a+b < t.length):aG (t.take a++t.drop (a+b)) a=t.take a++t.drop (a+(b+1)):=by
 have c:(t.take a).length=a:=by rw [zAj];omega
 unfold aG;rw [List.take_append_of_le_length oM,zAg oM,List.drop_append,c,List.drop_of_length_le oM,show a+1 - a=1 by omega,List.nil_append,List.drop_drop];rfl
def aFg (a:List UInt8) {p j:Nat} (b:p+j<=a.length):(a.take p++a.drop (p+j)).length=a.length - j:=by
 rw [zAi,zAj,zAw];omega
def aHm {t D:List UInt8} {b a:Nat} {c:UInt8} (d:D[a]?=some c) (e:b+a < t.length):(t.take b++(D.take a++t.drop (b+a))).set (b+a) c=t.take b++(D.take (a+1)++t.drop (b+(a+1))):=by
 have g:(t.take b).length=b:=by rw [zAj];omega
 obtain ⟨j,i⟩:=zAc.1 d;have f:(D.take a).length=a:=by rw [zAj];omega
 rw [List.set_append_right _ _ oM,g,Nat.add_sub_cancel_left,List.set_append_right _ _ oM,f,Nat.sub_self,zAx e,List.set_cons_zero,zAv,d];simp [Nat.add_assoc]
def aEQ (a b:List UInt8) {p j:Nat} (d:j<=b.length) (c:p+j<=a.length):(a.take p++(b.take j++a.drop (p+j))).length=a.length:=by
 rw [zAi,zAi,zAj,zAj,zAw];omega
end
end Go.Proofs.YtcoooelofcejbaaGreatDoor
