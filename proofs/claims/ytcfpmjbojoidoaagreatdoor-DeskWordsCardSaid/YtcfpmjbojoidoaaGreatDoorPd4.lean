/- Lemmas of the walk. Conditions: each its own. -/
import Derived.Test.YtcfpmjbojoidoaaGreatDoorPd1
import Derived.Test.YtcfpmjbojoidoaaGreatDoorPd2
import Derived.Test.YtcfpmjbojoidoaaGreatDoorProg
import Derived.Test.YtcfpmjbojoidoaaGreatDoorShs
import Derived.Test.YtcfpmjbojoidoaaGreatDoorShl
set_option linter.all false
set_option maxRecDepth 100000
set_option maxHeartbeats 4000000
open Go.Proofs.Tryz
namespace Go.Proofs.YtcfpmjbojoidoaaGreatDoor
section
def eP:List UInt8->List UInt8×List UInt8×Bool
 | []=>([], [],false)
 | a::l=>if a=32 then ([],l,true) else (a::(eP l).1,(eP l).2.1,(eP l).2.2)
def aJd (a:List UInt8):Lib.cut a [32]=eP a:=by
 induction a with
 | nil=>rfl
 | cons e a d=>
   unfold Lib.cut at d⊢;rw [Lib.index_one] at d⊢;unfold Lib.indexByte eP;by_cases c:e=32
   · subst c;simp
   · have i:(e==32)=false:=(by simpa using c);rw [i,zBw c,<-d];have m:=Lib.indexByte_ge a 32;by_cases g:Lib.indexByte a 32=-1
     · simp [g]
     · have l:0<=Lib.indexByte a 32:=oM;have j:(Lib.indexByte a 32==-1)=false:=(by simpa using g);obtain ⟨b,k⟩:∃b:Nat,Lib.indexByte a 32=b:=⟨(Lib.indexByte a 32).toNat,by omega⟩;rw [j,k];have f:((b:Int)+1).toNat=b+1:=oM;simp only [Bool.false_eq_true,if_false,zCf,List.length_nil,f];rw [zBx oM,zBx oM];simp [f]
def aBZ (a:List UInt8):(eP a).1.length<=a.length/\(eP a).2.1.length<=a.length:=by
 induction a with
 | nil=>exact ⟨zAs _,zAs _⟩
 | cons b a c=>
   unfold eP;split
   · simp
   simp only [zCf];omega
def bK:List UInt8->List (List UInt8)
 | []=> [[]]
 | a::l=>if a=10 then []::bK l else match bK l with
   | []=> [[a]]
   | x::r=>(a::x)::r
def yX (a:List UInt8):bK a≠ []:=by
 cases a with
 | nil=>simp [bK]
 | cons b a=>
   unfold bK;split
   · simp
   · split <;> simp
def zT (a:List UInt8):Lib.splitK [10] 0 (a.count 10) a=bK a:=by
 induction a with
 | nil=>rfl
 | cons d a f=>
   unfold bK;by_cases c:d=10
   · subst c;rw [zBx rfl,List.count_cons_self,<-f];rw [Lib.splitK];simp [Lib.index_one,Lib.indexByte]
   · rw [zBw c,List.count_cons_of_ne (by simpa using c),<-f];have k:(d==10)=false:=(by simpa using c);cases o:a.count 10 with
     | zero=>rfl
     | succ p=>
       have n:=Lib.indexByte_ge a 10;have l:Lib.index (d::a) [10]=if Lib.indexByte a 10=-1 then -1 else Lib.indexByte a 10+1:=(by rw [Lib.index_one,Lib.indexByte,k];simp);by_cases e:Lib.indexByte a 10=-1;exfalso;have:=Lib.count_one 10 a;rw [Lib.count_miss (by rw [Lib.index_one];exact e)] at this;omega
       · obtain ⟨b,m⟩:∃b:Nat,Lib.indexByte a 10=b:=⟨(Lib.indexByte a 10).toNat,by omega⟩;rw [Lib.splitK,Lib.splitK,l,zBw e,Lib.index_one,m];have g:((b:Int)+1==-1)=false:=(by rw [zCb];omega);have i:((b:Int)==-1)=false:=(by rw [zCb];omega);have j:((b:Int)+1).toNat=b+1:=oM;simp [g,i,j]
def aGp (a:List UInt8):Lib.splitB ⟨#[10]⟩ 0 (Lib.countB ⟨a.toArray⟩ ⟨#[10]⟩) ⟨a.toArray⟩=(bK a).map fun c=>(⟨c.toArray⟩:ByteArray):=by
 have b:=Lib.splitB_data ⟨#[10]⟩ 0 (Lib.countB ⟨a.toArray⟩ ⟨#[10]⟩) ⟨a.toArray⟩;have e:Lib.countB ⟨a.toArray⟩ ⟨#[10]⟩=a.count 10:=Lib.count_one 10 a;rw [e] at b⊢;have d:(Lib.splitB ⟨#[10]⟩ 0 (a.count 10) ⟨a.toArray⟩).map (·.data.toList)=bK a:=b.trans (zT a);rw [<-d,zCg]
 conv=>lhs;rw [<-List.map_id (Lib.splitB _ _ _ _)]
 refine List.map_congr_left fun c _=>?_;rfl
def fF (a:UInt8):Bool:=decide (48<=a.toNat)&&decide (a.toNat<=57)
def aDz (b:List UInt8):Nat:=b.foldl (fun c a=>c*10+(a.toNat - 48)) 0
def nO (a:List UInt8):Option Nat:=if a= []∨6 < a.length∨a.all fF=false then none else some (aDz a)
def aBY (a:List UInt8):∀b,a.all fF=true->Lib.decFrom b a=some (a.foldl (fun k c=>k*10+(c.toNat - 48)) b):=by
 induction a with
 | nil=>intro b _;rfl
 | cons c a j=>
   intro b e;rw [List.all_cons,zBd] at e;have d:=e.1;unfold fF at d;rw [zBd] at d;have f:=of_decide_eq_true d.1;have g:=of_decide_eq_true d.2;have i:Lib.digitVal c=some (c.toNat - 48):=(by unfold Lib.digitVal;rw [zBx ⟨f,g⟩]);unfold Lib.decFrom;rw [i];exact j _ e.2
def aHC {a:List UInt8} (i:a≠ []) (c:a.all fF=true):Lib.atoi a=some (aDz a:Int):=by
 cases a with
 | nil=>exact absurd rfl i
 | cons b a=>
   have d:fF b=true:=(by rw [List.all_cons,zBd] at c;exact c.1);unfold fF at d;rw [zBd] at d;have e:=of_decide_eq_true d.1;have f:(b==45)=false:=(by rw [zCb];rintro rfl;revert e;decide);have g:(b==43)=false:=(by rw [zCb];rintro rfl;revert e;decide);have j:Lib.decNat (b::a)=some (aDz (b::a)):=(by unfold Lib.decNat;simp only [List.isEmpty_cons,Bool.false_eq_true,if_false];exact aBY _ 0 c);unfold Lib.atoi;simp only [f,g,j,Bool.false_eq_true,if_false,Option.map_some]
def aEr:∀(b:List UInt8) (c a:Nat),b.all fF=true->c < 10 ^ a->b.foldl (fun g d=>g*10+(d.toNat - 48)) c < 10 ^(a+b.length)
 | [],c,a,_,f=>f
 | d::b,c,a,hd,f=>by rw [List.all_cons,zBd] at hd;have e:=hd.1;unfold fF at e;rw [zBd] at e;have i:=of_decide_eq_true e.2;have:=aEr b (c*10+(d.toNat - 48)) (a+1) hd.2 (by rw [Nat.pow_succ];omega);rw [zCp,zCf,show a+(b.length+1)=a+1+b.length by omega];exact this
def yV {a:List UInt8} {e:Nat} (b:nO a=some e):a≠ []/\a.length<=6/\a.all fF=true/\aDz a=e/\e < 1000000:=by
 unfold nO at b;split at b
 · cases b
 · rename_i d
   injection b with b;have i:a≠ []:=fun c=>d (.inl c);have j:a.length<=6:=(by rcases zBe 6 a.length with f | f;exact absurd (.inr (.inl f)) d;exact f);have g:a.all fF=true:=(by cases c:a.all fF with | true=>rfl | false=>exact absurd (.inr (.inr c)) d);refine ⟨i,j,g,b,?_⟩;have:=aEr a 0 0 g dC;rw [<-b];refine zAl this ?_;have:10 ^(0+a.length)<=10 ^ 6:=zBp dC oM;simpa using this
def cU (a:List Int):List UInt8:=if a= [] then [110,111,110,101] else Lib.join (a.map Lib.itoa) [32]
def vC (a:Nat):UInt8:= [48,49,50,51,52,53,54,55,56,57,97,98,99,100,101,102].getD a 0
def rV (b:List UInt8):List UInt8:=b.flatMap fun a=> [vC (a.toNat / 16),vC (a.toNat % 16)]
def kH (c:Nat) {b a:Nat} (f:b<=a):aY c b<=aY c a:=by
 induction a with
 | zero=>obtain rfl:b=0:=oM
         exact zAs _
 | succ a e=>
   rw [dA];by_cases d:b<=a;have:=e d;omega;obtain rfl:b=a+1:=oM;rw [dA];exact zAs _
def aEb (b:Nat) {e:Nat}:∀ {a:Nat},e < aY b a->∃c,c < a/\b.testBit c=true/\aY b c=e
 | 0,h=>by rw [mX] at h;omega
 | a+1,h=>by
   by_cases f:e < aY b a;obtain ⟨c,j,g,i⟩:=aEb b f;exact ⟨c,by omega,g,i⟩
   · rw [dA] at h;cases d:b.testBit a with
     | false=>rw [d] at h;simp at h;omega
     | true=>
       rw [d] at h;simp at h;exact ⟨a,by omega,d,by omega⟩
def aGV (c:Nat) {a b:Nat} (e:c.testBit a=true) (f:c.testBit b=true) (g:aY c a=aY c b):a=b:=by
 rcases Nat.lt_trichotomy a b with d | d | d;have:=kH c (show a+1<=b from d);rw [dA,e] at this;simp at this;omega;exact d;have:=kH c (show b+1<=a from d);rw [dA,f] at this;simp at this;omega
def aEj {a:Nat} (e:0 < a) (d:a < 2 ^ 64):∃b,a=2 ^ Lib.ctz 64 a*(2*b+1)/\Lib.ctz 64 a < 64:=by
 obtain ⟨b,f,g⟩:=Lib.ctzFrom_spec 64 a e d;have c:Lib.ctz 64 a=Lib.ctzFrom 64 a:=by unfold Lib.ctz;rw [zBw oM]
 exact ⟨b,by rw [c];exact f,by rw [c];exact g⟩
def aAj (a c b:Nat):(2 ^ a*(2*c+1)).testBit b=if b < a then false else if b=a then true else c.testBit (b - a - 1):=by
 rw [Nat.mul_comm,Nat.testBit_mul_two_pow];by_cases f:b < a;rw [zBx f,zBy oM];rfl
 · rw [zBw f,zBz oM,Bool.true_and];by_cases d:b=a
   · rw [zBx d];subst d;rw [Nat.sub_self];simp [Nat.testBit_zero]
   · rw [zBw d];obtain ⟨e,g⟩:∃e,b - a=e+1:=⟨b - a - 1,by omega⟩;rw [g,Nat.testBit_succ];have:(2*c+1)/ 2=c:=oM;rw [this];congr 1
def aGM (a c b:Nat):(2 ^ a*(2*c+1) - 1).testBit b=if b < a then true else if b=a then false else c.testBit (b - a - 1):=by
 have j:0 < 2 ^ a:=Nat.two_pow_pos a;have g:2 ^ a*(2*c+1) - 1=2 ^ a*(2*c)+(2 ^ a - 1):=by rw [Nat.mul_add,zBl];omega
 rw [g,Nat.testBit_two_pow_mul_add _ oM];by_cases d:b < a
 · rw [zBx d,zBx d,Nat.testBit_two_pow_sub_one,zBz d]
 · rw [zBw d,zBw d];by_cases e:b=a
   · rw [zBx e];subst e;rw [Nat.sub_self];simp [Nat.testBit_zero]
   · rw [zBw e];obtain ⟨f,i⟩:∃f,b - a=f+1:=⟨b - a - 1,by omega⟩;rw [i,Nat.testBit_succ];have:2*c / 2=c:=oM;rw [this];congr 1
def aFB {a:Nat} (g:0 < a) (f:a < 2 ^ 64) (b:Nat):(a&&&(a - 1)).testBit b=(a.testBit b&&decide (b≠Lib.ctz 64 a)):=by
 obtain ⟨j,e,i⟩:=aEj g f;generalize Lib.ctz 64 a=k at e i;subst e;rw [Nat.testBit_and,aAj,aGM];by_cases c:b < k
 · simp [c]
 · by_cases d:b=k
   · simp [d]
   · simp [c,d]
def aEv {a:Nat} (e:0 < a) (d:a < 2 ^ 64):a.testBit (Lib.ctz 64 a)=true/\∀b,b < Lib.ctz 64 a->a.testBit b=false:=by
 obtain ⟨i,c,f⟩:=aEj e d;generalize Lib.ctz 64 a=k at c f⊢;subst c;refine ⟨?_,fun b g=>?_⟩
 · rw [aAj,zBw oM,zBx rfl]
 · rw [aAj,zBx g]
def clr (a:Nat):Nat->Nat
 | 0=>a
 | i+1=>clr a i&&&(clr a i - 1)
def aDF (b a:Nat):clr b a<=b:=by
 induction a with
 | zero=>exact zAs _
 | succ a c=>exact zAk Nat.and_le_left c
def aAA {a:Nat} (o:a < 2 ^ 64) {i:Nat} (m:a.testBit i=true):∀b,b<=aY a i->∀c,(clr a b).testBit c=(a.testBit c&&decide (b<=aY a c))
 | 0,_,c=>by simp [clr]
 | b+1,hi,c=>by
   have e:=aAA o m b oM;have n:(clr a b).testBit i=true:=(by rw [e,m,zBz oM];rfl);have j:0 < clr a b:=by
    rcases zBa (clr a b) with f | f
    · rw [f] at n;simp at n
    exact f
   have l:clr a b < 2 ^ 64:=Nat.lt_of_le_of_lt (aDF a b) o;obtain ⟨d,p⟩:=aEv j l;show (clr a b&&&(clr a b - 1)).testBit c=_;rw [aFB j l];generalize Lib.ctz 64 (clr a b)=k at d p;rw [e,zBd,zCa] at d;obtain ⟨d,y⟩:=d;have x:aY a k=b:=by
    by_cases g:b < aY a k
    · obtain ⟨v,q,r,s⟩:=aEb a g;have:=p v q;rw [e,r,s] at this;simp at this
    omega
   rw [e];cases u:a.testBit c with
   | false=>rfl
   | true=>
     rw [Bool.true_and,Bool.true_and,Bool.eq_iff_iff,zBd,zCa,zCa,zCa];constructor;rintro ⟨g,t⟩;by_cases w:aY a c=b;exact absurd (aGV a u d oM) t;omega;intro g;refine ⟨by omega,?_⟩;rintro rfl;omega
def aEx {x:Nat} (e:x < 2 ^ 64) {b i:Nat} (d:x.testBit b=true) (c:i<=aY x b):0 < clr x i:=by
 have:=aAA e d i c b;rw [d,zBz c] at this;rcases zBa (clr x i) with a | a
 · rw [a] at this;simp at this
 exact a
def aIq {x:Nat} (e:x < 2 ^ 64) {b a:Nat} (d:x.testBit b=true) (m:aY x b=a):Lib.ctz 64 (clr x a)=b:=by
 have j:=aEx e d (i:=a) oM;have k:clr x a < 2 ^ 64:=Nat.lt_of_le_of_lt (aDF x a) e;obtain ⟨g,l⟩:=aEv j k;have f:=aAA e d a oM;rcases Nat.lt_trichotomy (Lib.ctz 64 (clr x a)) b with c | c | c;rw [f,zBd,zCa] at g;have:=kH x (show Lib.ctz 64 (clr x a)+1<=b from c);rw [dA,g.1] at this;simp at this;omega;exact c
 · have:=l b c;rw [f,d,zBz oM] at this;simp at this
def eS (a:Nat) (b:Bool):Nat:=if b then a else 18446744073709551615 - a
def aBd (a:Nat) (b:Bool) (c:a < 18446744073709551616):eS a b < 18446744073709551616:=by
 unfold eS;split <;> omega
def jX (a:Nat) (c:Bool) (f:a < 18446744073709551616) {b:Nat} (e:b < 64):(eS a c).testBit b=(a.testBit b==c):=by
 unfold eS;cases c with
 | true=>simp
 | false=>
   have d:18446744073709551615 - a=2 ^ 64 -(a+1):=oM;simp only [Bool.false_eq_true,if_false];rw [d,Nat.testBit_two_pow_sub_succ oM,zBz e];cases a.testBit b <;> rfl
def kV (e:Nat) (b:List Bool) (d:Bool):∀a,a<=b.length->(∀c,c < a->∀f,b[c]?=some f->e.testBit c=(f==d))->aY e a=(b.take a).count d
 | 0,_,_=>by simp [mX]
 | a+1,hn,h=>by have g:b[a]?=some (b[a]' oM):=zAa oM;rw [dA,kV e b d a oM (fun c i=>h c oM),zAv,g,zCc,h a oM _ g];simp [List.count_cons]
def aCM (c:List Bool) {a:Nat} (e:a < 64) {b:Bool} (d:c[a]?=some b):(w0 c).testBit a=b:=by
 unfold w0;rw [jB,zAb,zBs,zBx e,d];rfl
def aF3 (b:List Bool) {q:Nat} {a:Bool} (c:b[64+q]?=some a):(w1 b).testBit q=a:=by
 unfold w1;rw [jB,zAb,zBt,c];rfl
def aIR {a:List Bool} {b:Bool} {c d:Nat} (n:a.length<=128) (j:a[c]?=some b) (l:(a.take c).count b=d) (e:c < 64):
 (eS (w0 a) b).testBit c=true/\aY (eS (w0 a) b) c=d/\d < aY (eS (w0 a) b) 64:=by
 have i:=lS a;have o:=(zAc.1 j).1;have f:(eS (w0 a) b).testBit c=true:=by rw [jX _ _ i e,aCM a e j];simp
 have g:aY (eS (w0 a) b) c=d:=by rw [<-l];exact kV _ a b c oM fun q p m k=>by rw [jX _ _ i oM,aCM a oM k]
 refine ⟨f,g,?_⟩;have:=kH (eS (w0 a) b) (show c+1<=64 by omega);rw [dA,f,g] at this;simp at this;omega
def aIS {a:List Bool} {b:Bool} {c f:Nat} (r:a.length<=128) (m:a[c]?=some b) (u:(a.take c).count b=f) (t:64<=c):
 ∃i g,aY (eS (w0 a) b) 64=i/\i<=f/\f - i=g/\(eS (w1 a) b).testBit (c - 64)=true/\aY (eS (w1 a) b) (c - 64)=g/\g < aY (eS (w1 a) b) 64:=by
 have s:=lS a;have l:=lP a r;have v:=(zAc.1 m).1;have p:aY (eS (w0 a) b) 64=(a.take 64).count b:=kV _ a b 64 oM fun n e o d=>by rw [jX _ _ s e,aCM a e d]
 have w:(a.take c).count b=(a.take 64).count b+((a.drop 64).take (c - 64)).count b:=by
  have:a.take c=a.take 64++(a.drop 64).take (c - 64):=by rw [<-List.take_add];congr 1;omega
  rw [this,zCc]
 have j:(eS (w1 a) b).testBit (c - 64)=true:=by rw [jX _ _ l oM,aF3 a (q:=c - 64) (by rw [show 64+(c - 64)=c by omega];exact m)];simp
 have k:aY (eS (w1 a) b) (c - 64)=((a.drop 64).take (c - 64)).count b:=
  kV _ (a.drop 64) b (c - 64) (by rw [zAw];omega) fun n e o d=>by rw [zBt] at d;rw [jX _ _ l oM,aF3 a d]
 refine ⟨_,_,p,by omega,rfl,j,by rw [k];omega,?_⟩;have:=kH (eS (w1 a) b) (show c - 64+1<=64 by omega);rw [dA,j,k] at this;simp at this;omega
end
section
open Go.RowKit
def Rd.keepF {i:Nat->Prop} {e f:World} {g q c:Nat} {a:Option Addr} {r:List Value} (l:Rd e g q a c r) (o:Keep i e f) (w:g<=e.heap.size) (t:0 < c->∀j,a=some j->¬i j.block):Rd f f.heap.size q a c r:=
 ⟨l.1,fun m=>by
   obtain ⟨b,d,k,x,s⟩:=l.2 m;exact ⟨b,d,k,by have:=o.size;omega,fun n v u=>(o.cell (p:=⟨b,d+n,none⟩) (by simp only;omega) (by exact t m ⟨b,d,none⟩ k)).trans (s n v u)⟩⟩
def DataAt (i:World) (g:Nat) (e:Option Addr) (a b:Nat) (f:List UInt8):Prop:=
 f.length=a/\a<=b/\b<=maxLen/\((e=none/\a=0/\b=0)∨∃d c,e=some ⟨d,0,none⟩/\g<=d/\Bk i d 5 c/\a<=c.size/\c.toList.take a=f.map bv)
def DataAt.rd {c:World} {i:Nat} {d:Option Addr} {g j:Nat} {b:List UInt8} (l:DataAt c i d g j b):Rd c c.heap.size 1 d g (b.map bv):=by
 obtain ⟨e,o,p,⟨rfl,rfl,rfl⟩|⟨k,n,rfl,q,f,r,m⟩⟩:=l;obtain rfl:b= []:=zBk e;exact Rd.nil _ _ _ _
 · refine ⟨by simp [e],fun _=>⟨k,0,rfl,f.lt,fun s t a=>?_⟩⟩;rw [zBi,f.cell];rw [<-m,zBs] at a;split at a;simpa using a
   · cases a
def DataAt.of_own {k:World} {e:Nat} {d:Option Addr} {a f:Nat} {b:List UInt8} (g:k.ownsRow e 5 1 (.slice d a f) a (b.map bv)):DataAt k e d a f b:=by
 have j:b.length=a:=by simpa using g.1
 rcases g.2 with ⟨c,i⟩|⟨m,r,l,c,i,n,o,p,s,q⟩;cases c;exact ⟨j,zAs _,zAp _,.inl ⟨rfl,rfl,rfl⟩⟩;cases c;exact ⟨j,o,p,.inr ⟨m,l,rfl,i,n,by omega,by simpa using q⟩⟩
def DataAt.keep {m n:World} {c:Nat} {d:Option Addr} {l f:Nat} {e:List UInt8} (o:DataAt m c d l f e) (t:∀a b,c<=a->Bk m a 5 b->Bk n a 5 b):DataAt n c d l f e:=by
 obtain ⟨g,i,j,p |⟨a,b,rfl,k,q,r,s⟩⟩:=o;exact ⟨g,i,j,.inl p⟩;exact ⟨g,i,j,.inr ⟨a,b,rfl,k,t a b k q,r,s⟩⟩
def DataAt.below {a g:World} {B:Nat} {b:Option Addr} {f d:Nat} {c:List UInt8} (i:DataAt a B b f d c) (j:Below a.heap.size a g):DataAt g B b f d c:=i.keep fun l k _ e=>e.below j e.lt
def DataAt.mono {i:World} {B B':Nat} {a:Option Addr} {g c:Nat} {b:List UInt8} (l:DataAt i B a g c b) (r:B'<=B):DataAt i B' a g c b:=by
 obtain ⟨d,e,f,m |⟨k,j,rfl,q,n,o,p⟩⟩:=l;exact ⟨d,e,f,.inl m⟩;exact ⟨d,e,f,.inr ⟨k,j,rfl,by omega,n,o,p⟩⟩
end
section
structure Sp where
 kind:Int
 p:Int
 k:Int
 D:List UInt8
end
section
open Go.RowKit
def StpsAt (e:World) (b:Nat):List Value->List Sp->Prop
 | xs, []=>xs= []
 | xs,s::L=>∃a d c f,xs=.int .i64 s.kind::.int .i64 s.p::.int .i64 s.k::.slice a d c::f/\DataAt e b a d c s.D/\StpsAt e b f L
def StpsAt.keep {j k:World} {a:Nat} (i:∀b g,a<=b->Bk j b 5 g->Bk k b 5 g):∀ {f:List Sp} {l:List Value},StpsAt j a l f->StpsAt k a l f
 | [],_,d=>d
 | _::_,_,⟨A,n,c,ys,e,hd,d⟩=>⟨A,n,c,ys,e,hd.keep i,StpsAt.keep i d⟩
def StpsAt.below {a d:World} {B:Nat} {b:List Sp} {e:List Value} (f:StpsAt a B e b) (g:Below a.heap.size a d):StpsAt d B e b:=f.keep fun j i _ c=>c.below g c.lt
def StpsAt.grown {b f:World} {c i o n:Nat} {e:Value} {p:List Value} {d:List Sp} {g:List Value} (k:StpsAt b c g d) (m:b.ownsRow i 58 o e n p) (l:b.grownBy f e.ownBlock):StpsAt f c g d:=
 k.keep fun j q _ a=>(l.block j a.lt (aT m a dC)).trans a
def DataAt.grown {b j:World} {d k q p g f:Nat} {i:Value} {r:List Value} {c:Option Addr} {e:List UInt8} (m:DataAt b d c g f e) (o:b.ownsRow k 58 q i p r) (n:b.grownBy j i.ownBlock):DataAt j d c g f e:=
 m.keep fun l s _ a=>(n.block l a.lt (aT o a dC)).trans a
def DataAt.keepF {d:Nat->Prop} {i j:World} {a g f:Nat} {b:Option Addr} {c:List UInt8} (m:DataAt i a b g f c) (p:Keep d i j) (n:∀e,d e->e < a):DataAt j a b g f c:=
 m.keep fun l q r o=>p.bk o (fun k=>by have:=n l k;omega)
def aBm {c:World} {b e:Nat} {f:TypeId} {a:Array Value} (d:Bk c b f a) (g:a.size=e):Rd c c.heap.size e (some ⟨b,0,none⟩) 1 a.toList:=by
 refine ⟨by simp [g],fun _=>⟨b,0,rfl,d.lt,fun j k i=>?_⟩⟩;rw [zBi,d.cell j];rw [<-i];simp
end
section
def pK (b a:Nat) (c:Bool):Nat:=(b % 2 ^ a|||(if c then 2 ^ a else 0))|||(b&&&(18446744073709551615 - b % 2 ^ a))*2 % 18446744073709551616
def mE (a b:Nat) (c:Bool):Nat:=(a % 2 ^ b|||(a / 2&&&(18446744073709551615 - a / 2 % 2 ^ b)))|||(if c then 9223372036854775808 else 0)
def aEd (b a:Nat) (c:b < 18446744073709551616):(18446744073709551615 - b).testBit a=(decide (a < 64)&& !b.testBit a):=by
 have:=Nat.testBit_two_pow_sub_succ (n:=64) (x:=b) oM a;rw [<-this];congr 1;omega
def aG5 (c b a:Nat):(c % 2 ^ b).testBit a=(decide (a < b)&&c.testBit a):=Nat.testBit_mod_two_pow _ _ _
def aD9 (b a:Nat):(2 ^ b).testBit a=decide (b=a):=Nat.testBit_two_pow
def aIp (b a:Nat):(b*2 % 18446744073709551616).testBit a=(decide (a < 64)&&(decide (0 < a)&&b.testBit (a - 1))):=by
 have c:(18446744073709551616:Nat)=2 ^ 64:=dC;rw [c,aG5];congr 1;rcases a with _ | a
 · simp
 · rw [Nat.testBit_succ,Nat.mul_div_cancel _ (by decide:0 < 2)];simp
def uT (a c:Nat) (b:a < 18446744073709551616):a % 2 ^ c < 18446744073709551616:=Nat.lt_of_le_of_lt (Nat.mod_le _ _) b
def aI7 (b a:Nat) (d:b < 18446744073709551616) (c:64<=a):b.testBit a=false:=Nat.testBit_lt_two_pow (zAl d (zBp (n:=2) dC c))
def aAc (c b a:Nat) (d:Bool) (o:c < 18446744073709551616) (q:b < 64):(pK c b d).testBit a=if a < b then c.testBit a else if a=b then d else (decide (a < 64)&&c.testBit (a - 1)):=by
 unfold pK;rw [Nat.testBit_or,Nat.testBit_or,aIp,Nat.testBit_and,aEd _ _ (uT c b o),aG5,aG5];have n:(if d then 2 ^ b else 0:Nat).testBit a=(decide (b=a)&&d):=by
  cases d
  · simp
  · simp [aD9]
 rw [n];by_cases f:a < b
 · have e:decide (a - 1 < b)=true:=zBz oM;have g:decide (b=a)=false:=zBy oM;rw [zBx f,zBz f,e,g];cases r:c.testBit a <;> cases p:c.testBit (a - 1)<;> simp
 · rw [zBw f,zBy f];by_cases i:a=b
   · subst i;rw [zBx rfl];by_cases j:a=0
     · subst j;simp
     · have e:decide (a - 1 < a)=true:=zBz oM;rw [e];cases p:c.testBit (a - 1)<;> simp
   · have e:decide (a - 1 < b)=false:=zBy oM;have g:decide (b=a)=false:=zBy oM;have k:decide (0 < a)=true:=zBz oM;rw [zBw i,e,g,k];by_cases l:a < 64
     · have m:decide (a - 1 < 64)=true:=zBz oM;rw [m];simp
     · simp [l]
def aAv (b d a:Nat) (c:Bool) (j:b < 18446744073709551616) (o:d < 64):(mE b d c).testBit a=if a < d then b.testBit a else if a < 63 then b.testBit (a+1) else (decide (a=63)&&c):=by
 unfold mE;have m:b / 2 < 18446744073709551616:=Nat.lt_of_le_of_lt (Nat.div_le_self _ _) j;have n:∀g,(b / 2).testBit g=b.testBit (g+1):=fun g=>by rw [Nat.testBit_succ]
 rw [Nat.testBit_or,Nat.testBit_or,Nat.testBit_and,aEd _ _ (uT _ d m),aG5,aG5,n];have l:(if c then 9223372036854775808 else 0:Nat).testBit a=(decide (a=63)&&c):=by
  cases c
  · simp
  rw [zBx rfl,show (9223372036854775808:Nat)=2 ^ 63 by decide,aD9,Bool.and_true];congr 1;exact propext eq_comm
 rw [l];by_cases e:a < d
 · have f:decide (a=63)=false:=zBy oM;rw [zBx e,zBz e,f];cases p:b.testBit a <;> cases q:b.testBit (a+1)<;> simp
 · rw [zBw e,zBy e];by_cases i:a < 63
   · have f:decide (a=63)=false:=zBy oM;have k:decide (a < 64)=true:=zBz oM;rw [zBx i,f,k];simp
   · rw [zBw i,aI7 b (a+1) j oM];simp
def iJ (b:List Bool) (a:Nat):(w0 b).testBit a=(decide (a < 64)&&b.getD a false):=by unfold w0;rw [jB,aEJ]
def gC (b:List Bool) (a:Nat):(w1 b).testBit a=b.getD (64+a) false:=by unfold w1;rw [jB,aFv]
def tP (b:List Bool) (a:Nat) (c:b.length<=a):b.getD a false=false:=by
 rw [zAb,zBg c];rfl
def aIU (a:List Bool) (d:Nat) (e:Bool) (i:d<=a.length) (k:a.length<=127) (j:d < 64):w0 (aM a d e)=pK (w0 a) d e/\w1 (aM a d e)=pK (w1 a) 0 (a.getD 63 false):=by
 constructor
 · refine Nat.eq_of_testBit_eq fun b=>?_;rw [aAc _ _ _ _ (lS a) j,iJ,iJ,iJ,nC a e i];by_cases g:b < d
   · rw [zBx g,zBx g]
   · rw [zBw g,zBw g];by_cases c:b=d
     · rw [zBx c,zBx c,zBz oM,Bool.true_and]
     · rw [zBw c,zBw c];by_cases f:b < 64
       · rw [zBz f,zBz (show b - 1 < 64 by omega),Bool.true_and,Bool.true_and]
       · rw [zBy f,Bool.false_and,Bool.false_and]
 · refine Nat.eq_of_testBit_eq fun b=>?_;rw [aAc _ _ _ _ (lP a oM) dC,gC,gC,nC a e i,zBw oM,zBw oM,zBw oM];by_cases c:b=0
   · subst c;rw [zBx rfl]
   · rw [zBw c,show 64+b - 1=64+(b - 1) by omega,gC];by_cases f:b < 64
     · rw [zBz f,Bool.true_and]
     rw [zBy f,Bool.false_and];exact tP a _ oM
def aIV (a:List Bool) (c:Nat) (d:Bool) (i:c<=a.length) (k:a.length<=127) (j:64<=c):w0 (aM a c d)=w0 a/\w1 (aM a c d)=pK (w1 a) (c - 64) d:=by
 constructor
 · refine Nat.eq_of_testBit_eq fun b=>?_;rw [iJ,iJ,nC a d i];by_cases e:b < 64
   · rw [zBz e,zBx oM]
   · rw [zBy e,Bool.false_and,Bool.false_and]
 · refine Nat.eq_of_testBit_eq fun b=>?_;rw [aAc _ _ _ _ (lP a oM) oM,gC,gC,gC,nC a d i];by_cases f:b < c - 64
   · rw [zBx oM,zBx f]
   · rw [zBw oM,zBw f];by_cases g:b=c - 64
     · rw [zBx oM,zBx g]
     · rw [zBw oM,zBw g,show 64+b - 1=64+(b - 1) by omega];by_cases e:b < 64
       · rw [zBz e,Bool.true_and]
       rw [zBy e,Bool.false_and];exact tP a _ oM
def aJc (a:List Bool) (c:Nat) (g:c < a.length) (j:a.length<=128) (i:c < 64):w0 (aD a c)=mE (w0 a) c (a.getD 64 false)/\w1 (aD a c)=mE (w1 a) 0 false:=by
 constructor
 · refine Nat.eq_of_testBit_eq fun b=>?_;rw [aAv _ _ _ _ (lS a) i,iJ,iJ,iJ,nJ a g];by_cases e:b < c
   · rw [zBx e,zBx e]
   · rw [zBw e,zBw e];by_cases d:b < 63
     · rw [zBx d,zBz (show b < 64 by omega),zBz (show b+1 < 64 by omega)]
     · rw [zBw d];by_cases f:b=63;subst f;rfl
       · rw [zBy f,zBy (show ¬b < 64 by omega),Bool.false_and,Bool.false_and]
 · refine Nat.eq_of_testBit_eq fun b=>?_;rw [aAv _ _ _ _ (lP a j) dC,gC,gC,nJ a g,zBw oM,zBw oM,Bool.and_false];by_cases d:b < 63
   · rw [zBx d,show 64+b+1=64+(b+1) by omega,gC]
   rw [zBw d];exact tP a _ oM
def cut_hi (a:List Bool) (k:Nat) (f:k < a.length) (g:a.length<=128) (i:64<=k):w0 (aD a k)=w0 a/\w1 (aD a k)=mE (w1 a) (k - 64) false:=by
 constructor
 · refine Nat.eq_of_testBit_eq fun b=>?_;rw [iJ,iJ,nJ a f];by_cases e:b < 64
   · rw [zBz e,zBx oM]
   · rw [zBy e,Bool.false_and,Bool.false_and]
 · refine Nat.eq_of_testBit_eq fun b=>?_;rw [aAv _ _ _ _ (lP a g) oM,gC,gC,gC,nJ a f,Bool.and_false];by_cases c:b < k - 64
   · rw [zBx oM,zBx c]
   · rw [zBw oM,zBw c,show 64+b+1=64+(b+1) by omega];by_cases d:b < 63
     · rw [zBx d]
     rw [zBw d];exact tP a _ oM
def aHS (a:Nat) (b:a < 18446744073709551616):decide (a / 9223372036854775808=1)=a.testBit 63:=by
 rw [Nat.testBit_eq_decide_div_mod_eq];have:a / 2 ^ 63 % 2=a / 9223372036854775808:=by rw [show (2:Nat)^ 63=9223372036854775808 by decide];omega
 rw [this]
end
section
open Go.RowKit
def aB7 (b a:Nat) (e:b < 18446744073709551616) (f:a < 18446744073709551616):bits .andNot .u64 (b:Int) (a:Int)=((b&&&(18446744073709551615 - a):Nat):Int):=by
 have c:b % 2 ^ 64=b:=zBu oM;have d:a % 2 ^ 64=a:=zBu oM;have g:b&&&(18446744073709551615 - a) < 2 ^ 64:=Nat.and_lt_two_pow _ oM;show IntKind.u64.wrap (((BitVec.ofInt 64 (b:Int)&&& ~~~ BitVec.ofInt 64 (a:Int)).toNat:Nat):Int)=_;rw [BitVec.ofInt_natCast,BitVec.ofInt_natCast,BitVec.toNat_and,BitVec.toNat_not,BitVec.toNat_ofNat,BitVec.toNat_ofNat,c,d,IntKind.wrap_u64,show 2 ^ 64 - 1 - a=18446744073709551615 - a by omega];omega
def aEa {a b:Nat} (c:a < 18446744073709551616) (d:b < 18446744073709551616):a||| b < 18446744073709551616:=Nat.or_lt_two_pow (n:=64) c d
def aB8 (a:Nat) {b:Nat} (c:b < 18446744073709551616):a&&& b < 18446744073709551616:=Nat.and_lt_two_pow (n:=64) a c
def aDm (b a:Nat) (c:a < 64):aAk b (a:Int)=b % 2 ^ a:=by
 unfold aAk;rw [show min ((a:Int)).toNat 64=a by omega]
def aHP (b c:Nat) (f:Bool) (m:b < 18446744073709551616) (w:c < 64) (A:World):
 Calls prog 303 #[.int .u64 (b:Int),(c:Int),.bool f] A fun s G=>s=.returned (.tuple #[.int .u64 ((pK b c f:Nat):Int),.bool (b.testBit 63)])/\A=G:=by
 have x:=aDm b c w;obtain ⟨d,i⟩:=eqx (b % 2 ^ c);have q:d < 18446744073709551616:=by rw [<-i];exact uT b c m
 obtain ⟨g,l⟩:=eqx (2 ^ c);have O:g < 18446744073709551616:=by rw [<-l];exact Nat.pow_lt_pow_right (a:=2) dC (show c < 64 from w)
 have N:(2:Int)^ c=(g:Int):=by rw [<-l];push_cast;rfl
 obtain ⟨p,e⟩:=eqx ((if f then g else 0:Nat));have u:p < 18446744073709551616:=by rw [<-e];split <;> omega
 have H:IntKind.u64.wrap (g:Int)=(g:Int):=by rw [IntKind.wrap_u64];omega
 have t:=aFb d p q u;obtain ⟨n,j⟩:=eqx (d||| p);have E:n < 18446744073709551616:=by rw [<-j];exact aEa q u
 have C:=aB7 b d m q;obtain ⟨r,k⟩:=eqx (b&&&(18446744073709551615 - d));have M:r < 18446744073709551616:=by rw [<-k];exact aB8 _ oM
 obtain ⟨o,y⟩:=eqx (r*2 % 18446744073709551616);have F:o < 18446744073709551616:=oM;have J:IntKind.u64.wrap ((r:Int)*2)=(o:Int):=by rw [IntKind.wrap_u64];omega
 have D:=aFb n o E F;have v:pK b c f=n||| o:=by unfold pK;rw [i,l,e,j,k,y]
 have z:((b:Int)/ 9223372036854775808==1)=b.testBit 63:=by rw [<-aHS b m,Bool.eq_iff_iff,zCq,zCa];omega
 rw [j] at t;rw [k] at C;rw [v,<-z];have K:decide ((c:Int) < 0)=false:=by simp
 have L:¬((c:Int)>=64):=oM;have B:=lhd (x.trans i);clear v z x i l j k y;go_enter func303,ntmps303;go_wp2_with fail;refine (pS b (c:Int) m oM _).mono ?_;rintro s w1 ⟨rfl,rfl⟩;rw [B.out];cases f with
 | true=>
   rw [zBx rfl] at e;subst e;go_wp2_with fail;go_ret2;exact ⟨rfl,rfl⟩
 | false=>
   rw [zBw (by simp)] at e;subst e;have I:bits .or .u64 (d:Int) 0=(n:Int):=t;go_wp2_with fail;go_ret2;exact ⟨by rw [<-D];rfl,rfl⟩
def aCH (b a:Nat) (i:Bool) (u:b < 18446744073709551616) (C:a < 64) (F:World):
 Calls prog 294 #[.int .u64 (b:Int),(a:Int),.bool i] F fun j P=>j=.returned (.tuple #[.int .u64 ((mE b a i:Nat):Int),.bool (b.testBit a)])/\F=P:=by
 have D:=aDm b a C;have s:=aDm (b / 2) a C;obtain ⟨p,k⟩:=eqx (b % 2 ^ a);have z:p < 18446744073709551616:=by rw [<-k];exact uT b a u
 have O:b / 2 < 18446744073709551616:=oM;obtain ⟨q,e⟩:=eqx (b / 2 % 2 ^ a);have L:q < 18446744073709551616:=by rw [<-e];exact uT _ a O
 obtain ⟨g,o⟩:=eqx (b / 2);have X:(b:Int)/ 2=(g:Int):=oM;have v:g < 18446744073709551616:=oM;obtain ⟨r,f⟩:=eqx ((if i then 9223372036854775808 else 0:Nat));have M:r < 18446744073709551616:=by rw [<-f];split <;> omega
 have I:=aB7 g q v L;obtain ⟨w,n⟩:=eqx (g&&&(18446744073709551615 - q));have E:w < 18446744073709551616:=by rw [<-n];exact aB8 _ oM
 have H:=aFb p w z E;obtain ⟨d,m⟩:=eqx (p||| w);have N:d < 18446744073709551616:=by rw [<-m];exact aEa z E
 have y:=aFb d r N M;have B:mE b a i=d||| r:=by unfold mE;rw [k,o,f];rw [o] at e;rw [e,n,m]
 obtain ⟨c,l⟩:=eqx (b / 2 ^ a);have T:(b:Int)/ 2 ^ a=(c:Int):=by rw [<-l];push_cast;rfl
 have U:c < 18446744073709551616:=by rw [<-l];exact Nat.lt_of_le_of_lt (Nat.div_le_self _ _) u
 have K:bits .and .u64 (c:Int) 1=((c&&& 1:Nat):Int):=(bits_nat .u64 64 dC (fun Y R S=>by rw [IntKind.wrap_u64];omega) c 1 oM dC).1;have t:(((c&&& 1:Nat):Int)==1)=b.testBit a:=by rw [Nat.testBit_eq_decide_div_mod_eq,l,Nat.and_one_is_mod,Bool.eq_iff_iff,zCq,zCa];omega
 obtain ⟨Q,A⟩:=eqx (c&&& 1);rw [A] at K t;rw [m] at H;rw [n] at I;rw [B,<-t];have V:decide ((a:Int) < 0)=false:=by simp
 have W:¬((a:Int)>=64):=oM;rw [o] at s e;obtain ⟨G,x⟩:=hqq2 (D.trans k) (s.trans e);clear B t D s k e o m n l A;go_enter func294,ntmps294;go_wp2_with fail;refine (pS b (a:Int) u oM _).mono ?_;rintro j w1 ⟨rfl,rfl⟩;rw [G.out];cases i with
 | true=>
   rw [zBx rfl] at f;subst f;have J:bits .or .u64 (d:Int) 9223372036854775808=((d||| 9223372036854775808:Nat):Int):=y;go_wp2_with fail;refine (pS g (a:Int) v oM _).mono ?_;rintro j w1 ⟨rfl,rfl⟩;rw [x.out];go_wp2_with fail;go_ret2;exact ⟨rfl,rfl⟩
 | false=>
   rw [zBw (by simp)] at f;subst f;have J:bits .or .u64 (d:Int) 0=((d||| 0:Nat):Int):=y;go_wp2_with fail;refine (pS g (a:Int) v oM _).mono ?_;rintro j w1 ⟨rfl,rfl⟩;rw [x.out];go_wp2_with fail;go_ret2;exact ⟨by rw [Nat.or_zero];rfl,rfl⟩
end
section
def fJ (a:List (Int×Nat)):List UInt8:=a.flatMap cH
def qA (b:Int×Nat) (a:List (Int×Nat)):fJ (b::a)=cH b++fJ a:=by simp [fJ]
def sR (a:Int×Nat) (b:List (Int×Nat)):dW (a::b)=List.replicate a.2 a.1++dW b:=by simp [dW]
def aED:Nat->List (Int×Nat)->Prop
 | _, []=>True
 | last,x::q=>(iX x.1/\x.1.toNat≠last/\1<=x.2/\x.2 < 18446744073709551616)/\aED x.1.toNat q
def aE4 (d:List UInt8) (b:Nat) (a:Int×Nat) (c:List UInt8) (i:iX a.1) (j:a.2 < 18446744073709551616) (e:d.drop b=cH a++c):nP d b=some (a.1.toNat,a.2,b+(cH a).length):=by
 have f:=nD a.1.toNat (by have:=i.2;omega) (bP a.2++c) b;rw [cH,zCn] at e;rw [<-e] at f;have k:d.drop (b+(bP a.1.toNat).length)=bP a.2++c:=by rw [<-List.drop_drop,e,List.drop_left]
 have g:=nD a.2 j c (b+(bP a.1.toNat).length);rw [<-k] at g;rw [uI _ _ _ _ _ _ f g,cH,zAi,Nat.add_assoc]
def aGE (e:List UInt8) (k i:Nat) (l:List UInt8):∀(a:List (Int×Nat)) (c f:Nat) (d:List Int),e.drop c=fJ a++l->aED f a->d.length+(dW a).length<=k->
 ∃x,rgo e k (a.length+i) c f d=rgo e k i (c+(fJ a).length) x (d++dW a):=by
 intro a
 induction a with
 | nil=>intro c f d _ _ _;exact ⟨f,by simp [fJ,dW]⟩
 | cons b a v=>
   intro c f d j p s;obtain ⟨⟨g,y,z,m⟩,n⟩:=p;rw [qA,zCn] at j;have t:=aE4 e c b _ g m j;rw [sR,zAi,zCm] at s;have o:(b::a).length+i=(a.length+i)+1:=(by simp;omega);rw [o,aBx _ _ _ _ _ _ _ _ _ t,zBw (by have:=g.1;have:=g.2;omega),zBw oM];have u:((b.1.toNat:Nat):Int)=b.1:=(by have:=g.1;omega);rw [u];have q:e.drop (c+(cH b).length)=fJ a++l:=(by rw [<-List.drop_drop,j,List.drop_left]);obtain ⟨w,r⟩:=v (c+(cH b).length) b.1.toNat (d++List.replicate b.2 b.1) q n (by rw [zAi,zCm];omega);refine ⟨w,?_⟩;rw [r,qA,sR,zAi,zCn,Nat.add_assoc]
def aHv (c:List (Int×Nat)) (l:sE c) (e:∀a∈c,iX a.1/\a.2 < 18446744073709551616) (f:Nat) (o:∀a,c[0]?=some a->a.1.toNat≠f):aED f c:=by
 induction c generalizing f with
 | nil=>trivial
 | cons a c s=>
   obtain ⟨g,_,i⟩:=l;refine ⟨⟨(e a (List.mem_cons_self ..)).1,o a rfl,g a (List.mem_cons_self ..),(e a (List.mem_cons_self ..)).2⟩,?_⟩;refine s ⟨fun d b=>g d (List.mem_cons_of_mem _ b),List.pairwise_of_forall (by intros;trivial),fun r j k m n=>i (r+1) j k (by simpa using m) (by simpa using n)⟩ (fun d b=>e d (List.mem_cons_of_mem _ b)) _ ?_;intro d b;have:=i 0 a d rfl (by simpa using b);have p:=(e a (List.mem_cons_self ..)).1;have q:=(e d (List.mem_cons_of_mem _ (zAd b))).1;have:=p.1;have:=q.1;omega
def aDG (c:List Int) (d:∀a∈bB c,iX a.1) (e:c.length < 18446744073709551616):aED 257 (bB c):=
 aHv _ (yR c) (fun a b=>⟨d a b,by have:=oF c a b;omega⟩) 257 fun a b=>by have:=(d a (zAd b)).2;have:=(d a (zAd b)).1;omega
def zX (a:List Int) (b:a.length < 18446744073709551616):(bB a).length < 18446744073709551616:=by have:=kT a;omega
def aAr (a:List Int) (l:∀m∈bB a,iX m.1) (f:a.length < 18446744073709551616) (d:Int) (n:(a.length:Int)<=d) (b:List UInt8):
 lA (eK (bB a)++b) d=if b= [] then (a,0) else ([],4):=by
 have i:=nD (bB a).length (zX a f) (fJ (bB a)++b) 0;have j:eK (bB a)++b=bP (bB a).length++(fJ (bB a)++b):=by simp [eK,fJ]
 rw [j,lA,i];simp only [zBi];have k:(bP (bB a).length++(fJ (bB a)++b)).drop (bP (bB a).length).length=fJ (bB a)++b:=List.drop_left;have e:=mD a;obtain ⟨o,g⟩:=aGE _ d.toNat 0 b (bB a) _ 257 [] k (aDG a l f) (by rw [e];simp;omega);rw [zBq] at g;rw [g,e,List.nil_append,rgo];by_cases c:b= []
 · subst c;rw [zBx (by simp),zBx rfl]
 · have:0 < b.length:=List.length_pos_iff.2 c;rw [zBw (by simp;omega),zBw c]
end
section
open Go.RowKit
def aHZ (a:World):(sizeOf 5).run prog a=.ok 1 a:=by kernel_rfl
def qK (b a:Nat) (f:b<=144115188075855871) (e:a < 256):bits .or .u64 ((b:Int)*128) (IntKind.u64.wrap (bits .and .u8 (a:Int) 127))=((b*128+a % 128:Nat):Int):=by
 have c:bits .and .u8 (a:Int) 127=((a % 128:Nat):Int):=by have:=u8_and_nat a 127 e oM;rw [nat_mask7] at this;exact this
 have d:IntKind.u64.wrap ((a % 128:Nat):Int)=((a % 128:Nat):Int):=by rw [IntKind.wrap_u64];omega
 rw [c,d,show ((b:Int)*128)=((b*128:Nat):Int) by push_cast;rfl,u64_or_nat _ _ oM oM,nat_join 7 (b*128) (a % 128) oM oM]
def mT {b:Nat} {c d:Int} {a:Nat×Int×Int} (e:a=(b,c,d)):Ending.returned (.tuple #[.int .u64 (b:Int),.int .i64 c,.int .i64 d])=Ending.returned (.tuple #[uv a.1,iv a.2.1,iv a.2.2]):=by subst e;rfl
def aBz {c:Nat} {f b d e:Int} {a:Nat×Int×Int} (j:f=(c:Int)) (i:d=b) (g:a=(c,b,e)):Ending.returned (.tuple #[.int .u64 f,.int .i64 d,.int .i64 e])=Ending.returned (.tuple #[uv a.1,iv a.2.1,iv a.2.2]):=by subst g;subst j;subst i;rfl
def aIB (r:Option Addr) (g p:Nat) (d:List UInt8) (j:Int) (K:Nat) (B:World) (y:Rd B K 1 r g (d.map bv)) (V:g<=p) (R:p<=maxLen):
 Calls prog 231 #[.slice r g p,.int .i64 j] B fun O X=>O=.returned (.tuple #[uv (dU d j).1,iv (dU d j).2.1,iv (dU d j).2.2])/\B=X:=by
 unfold maxLen at R;have I:d.length=g:=by simpa using y.1
 obtain ⟨o,N⟩:=hqq2 I y;clear I y;by_cases x:j < 0
 · have m:dU d j=(0,j,2):=(by rw [dU,zBx (.inl x)]);have i:=lhd m;clear m;go_enter func231,ntmps231;go_wp2;go_ret3;exact ⟨mT i.out,rfl⟩
 by_cases F:(g:Int) < j
 · have m:dU d j=(0,j,2):=(by rw [dU,zBx (.inr (by rw [o.out];exact F))]);have i:=lhd m;clear m;go_enter func231,ntmps231;go_wp2;go_ret3;exact ⟨mT i.out,rfl⟩
 obtain ⟨a,rfl⟩:=Int.eq_ofNat_of_zero_le (Int.not_lt.1 x);have H:a<=g:=oM;have m:dU d (a:Int)=match dV (d.drop a) true 0 a with | some (A,W)=>(A,(W:Int),0)| none=>(0,(a:Int),4):=by rw [dU,zBw (by rw [o.out];omega)];rfl
 have i:=lhd m;have w:=N.out.cut (k:=a) (cap:=p) H V;have hcut:=uG (P:=prog) 34 5 1 underlying34 aHZ r g p a H;generalize gJ r p a 1=A' at w hcut;have L:=lhd w;have a0:decide ((a:Int) < 0)=false:=by simp
 have a1:decide (g < a)=false:=by simp;omega
 clear m x w F;go_enter func231,ntmps231;go_wp2
 go_loop [7,23] (fun A z=>∃c f:Nat,c<=g - a/\z=.int .i64 c/\A=.int .u64 f/\dV (d.drop (a+c)) (c==0) f (a+c)=dV (d.drop a) true 0 a) (fun _ z=>g -(intOf z).toNat)
 case atStart=>exact ⟨0,0,zAp _,rfl,rfl,rfl⟩
 case round=>
  obtain ⟨c,f,a2,rfl,rfl,E⟩:=hrel;have l:=lhd E;clear E;by_cases U:c < g - a
  · obtain ⟨C,a3,a4,rfl,Z,J,Q⟩:=L.out.get U;have q:∃e,d[a+c]?=some e:=⟨d[a+c]'(by have:=o.out;omega),zAa (by have:=o.out;omega)⟩;obtain ⟨e,q⟩:=q;simp only [zBl,zBt,zAf,q,Option.map_some,Option.some.injEq] at J;subst J;unfold bv at Q;have D:d.drop (a+c)=e::d.drop (a+c+1):=(by have T:a+c < d.length:=(by have:=o.out;omega);rw [zAx T];have:d[a+c]=e:=(zAc.1 q).2;rw [this]);have t:e.toNat < 256:=e.toNat_lt;rw [D,lB] at l;clear q D;go_wp2
    · have Y:(e.toNat:Int)=128:=(by assumption);have n:c=0:=(by assumption);go_ret3;refine ⟨mT ?_,rfl⟩;rw [i.out,<-l.out,zBx (by simp;left;omega)]
    · have n:c=0:=(by assumption);have s:((e.toNat:Int)==128)=true∨(144115188075855871:Int) < (f:Int):=(by assumption);go_ret3;refine ⟨mT ?_,rfl⟩;rw [i.out,<-l.out,zBx (by simp at s⊢;omega)]
    · have n:c=0:=(by assumption);have s:¬(e.toNat:Int)=128:=(by assumption);have u:((e.toNat:Int)==128)=false/\(f:Int)<=144115188075855871:=(by assumption);have v:(e.toNat:Int) < 128:=(by assumption);subst n;go_ret3;refine ⟨aBz (qK f _ oM t) ?_ (b:=((a+0+1:Nat):Int)) ?_,rfl⟩;push_cast;rfl
      · rw [i.out,<-l.out,zBw (by simp;omega),zBx oM]
    have n:c=0:=(by assumption);have s:¬(e.toNat:Int)=128:=(by assumption);have u:((e.toNat:Int)==128)=false/\(f:Int)<=144115188075855871:=(by assumption);have v:(128:Int)<=(e.toNat:Int):=(by assumption);subst n;refine ⟨⟨0+1,f*128+e.toNat % 128,by omega,rfl,jA (qK f _ oM t),?_⟩,by simp [intOf];omega⟩;rw [<-l.out,zBw (by simp;omega),zBw oM];rfl
    · have n:¬c=0:=(by assumption);have s:(144115188075855871:Int) < (f:Int):=(by assumption);go_ret3;refine ⟨mT ?_,rfl⟩;rw [i.out,<-l.out,zBx (by simp;omega)]
    · have n:¬c=0:=(by assumption);have u:(f:Int)<=144115188075855871:=(by assumption);have v:(e.toNat:Int) < 128:=(by assumption);go_ret3;refine ⟨aBz (qK f _ oM t) ?_ (b:=((a+c+1:Nat):Int)) ?_,rfl⟩;push_cast;rfl
      · rw [i.out,<-l.out,zBw (by simp;omega),zBx oM]
    · have n:¬c=0:=(by assumption);have u:(f:Int)<=144115188075855871:=(by assumption);have v:(128:Int)<=(e.toNat:Int):=(by assumption);refine ⟨⟨c+1,f*128+e.toNat % 128,by omega,by go_num,jA (qK f _ oM t),?_⟩,by simp [intOf];omega⟩;rw [<-l.out,zBw (by simp;omega),zBw oM];rfl
  · have G:c=g - a:=oM;have M:=lhd G;clear G;go_wp2;go_ret3;refine ⟨mT ?_,rfl⟩;have S:d.drop (a+c)= []:=List.drop_eq_nil_of_le (by rw [o.out];have:=M.out;omega);rw [i.out,<-l.out,S,dV]
def eQ (d:Option Addr) (b a:Nat) (f:List UInt8) (e:Int) (g:Nat) (c:World) (k:Nat) (l j:Int) (n:dU f e=(k,l,j)) (r:Rd c g 1 d b (f.map bv)) (q:b<=a) (o:a<=maxLen):
 Calls prog 231 #[.slice d b a,.int .i64 e] c fun i m=>i=.returned (.tuple #[.int .u64 (k:Int),.int .i64 l,.int .i64 j])/\c=m:=
 (aIB d b a f e g c r q o).mono fun i m ⟨p,s⟩=>⟨by rw [p,n];rfl,s⟩
def aFk (c b a:Nat) (g:c < 256 ^ a) (m:b < 256) (l:a < 4):bits .or .u32 (c:Int) ((b:Int)*2 ^(8*a)% 4294967296)=((c+b*256 ^ a:Nat):Int):=by
 have d:(256:Nat)^ a=2 ^(8*a):=by rw [Nat.pow_mul]
 have e:b*256 ^ a < 4294967296:=by have k:b*256 ^ a<=255*256 ^ a:=Nat.mul_le_mul_right _ oM;have i:256 ^ a<=256 ^ 3:=zBp oM oM;omega
 have j:c < 4294967296:=by have i:256 ^ a<=256 ^ 3:=zBp oM oM;omega
 have f:((b:Int)*2 ^(8*a)% 4294967296)=((b*256 ^ a:Nat):Int):=by
  rw [d] at e⊢;have:(b:Int)*2 ^(8*a)=((b*2 ^(8*a):Nat):Int):=by push_cast;rfl
  rw [this];omega
 rw [f,u32_or_nat _ _ j e,Nat.or_comm,nat_join (8*a) (b*256 ^ a) c (by rw [d];exact Nat.mul_mod_left _ _) (by rw [<-d];exact g),zCs]
def aFY (c:Nat) (b:World):
 Calls prog 127 #[.int .u32 (c:Int)] b fun o n=>∃d,o=.returned d/\n.ownsRow b.heap.size 5 1 d 4 ((qD c).map bv)/\Below b.heap.size b n:=by
 obtain ⟨x,s,u,v,w⟩:=info_parts jN;go_enter func127,ntmps127;go_wp2;go_loopw [0,3,4] (fun y d g wr=>∃a:Nat,a<=4/\g=.int .i64 a/\y=.int .u32 ((c / 256 ^ a:Nat):Int)/\wr.ownsRow b.heap.size 5 1 d a ((aAs a c).map bv)/\Below b.heap.size b wr) (fun _ _ g _=>4 -(intOf g).toNat)
 case atStart=>exact ⟨0,zAp _,rfl,by simp,World.ownsRow_nil _ _ _ _,Below.refl _ _⟩
 case round=>
  obtain ⟨a,A,rfl,rfl,f,e⟩:=hrel;have j:=e.size;by_cases B:a < 4
  · generalize k:c / 256 ^ a=m;have i:=lhd k;clear k;go_wp2_with (at_builtin;refine bM _ rfl (.tmp 6) (.tmp 9) _ rfl b.heap.size 5 x (.int .u8 0) 1 1 underlying34 s u v w rfl dC u3 a _ rfl f rfl rfl (by simp [Value.oneCell']) (by unfold maxLen;omega) oM j ?_;intro D E l r C z);have q:=bG e f r j;refine ⟨⟨a+1,by omega,by go_num,jA ?_,?_,q⟩,by simp [intOf];omega⟩;rw [Nat.pow_succ,<-Nat.div_div_eq_div_mul,i.out];push_cast;rfl;have t:Value.int .u8 ((m:Int)% 256)=bv (UInt8.ofNat (m % 256)):=(by unfold bv;congr 1;simp [UInt8.toNat_ofNat']);rw [t] at l;rw [aAs,i.out];simpa using l
  · have p:a=4:=oM;subst p;go_wp2;go_ret;exact ⟨u3,rfl,f,e⟩
def zN (d:Nat) (a:World):
 Calls prog 127 #[.int .u32 (d:Int)] a fun f e=>∃b c,f=.returned (.slice b 4 c)/\Made e a.heap.size 5 1 b 4 c ((qD d).map bv)/\Below a.heap.size a e:=by
 refine (aFY d a).mono fun f e ⟨l,i,k,g⟩=>?_;obtain ⟨b,c,rfl,j⟩:=aU k;exact ⟨b,c,i,j,g⟩
def aAa {b:Nat} {d c:Int} {a:Nat×Int} (f:d=(b:Int)) (e:a=(b,c)):Ending.returned (.tuple #[.int .u32 d,.int .i64 c])=Ending.returned (.tuple #[.int .u32 (a.1:Int),iv a.2]):=by subst e;subst f;rfl
def aJm (q:Option Addr) (f A:Nat) (b:List UInt8) (e:Int) (w:Nat) (p:World) (n:Rd p w 1 q f (b.map bv)) (E:f<=maxLen):
 Calls prog 158 #[.slice q f A,.int .i64 e] p fun B J=>B=.returned (.tuple #[.int .u32 ((ofB b e).1:Int),iv (ofB b e).2])/\p=J:=by
 unfold maxLen at E;have s:b.length=f:=by simpa using n.1
 obtain ⟨i,y⟩:=hqq2 s n;clear s n;by_cases m:e < 0
 · have d:ofB b e=(0,2):=(by rw [ofB,zBx (.inl m)]);have g:=lhd d;clear d;go_enter func158,ntmps158;go_wp2;go_ret2;exact ⟨aAa rfl g.out,rfl⟩
 by_cases r:(f:Int) < e
 · have d:ofB b e=(0,2):=(by rw [ofB,zBx (.inr (by rw [i.out];exact r))]);have g:=lhd d;clear d;go_enter func158,ntmps158;go_wp2;go_ret2;exact ⟨aAa rfl g.out,rfl⟩
 by_cases G:(f:Int) - e < 4
 · have d:ofB b e=(0,4):=(by rw [ofB,zBw (by rw [i.out];omega),zBx (by rw [i.out];omega)]);have g:=lhd d;clear d;go_enter func158,ntmps158;go_wp2;go_ret2;exact ⟨aAa rfl g.out,rfl⟩
 obtain ⟨c,rfl⟩:=Int.eq_ofNat_of_zero_le (Int.not_lt.1 m);have d:ofB b (c:Int)=(ofN b c 4,0):=by rw [ofB,zBw (by rw [i.out];omega),zBw (by rw [i.out];omega)];rfl
 have g:=lhd d;have L:c+4<=f:=oM;have N:decide ((c:Int) < 0)=false:=by simp
 have O:decide (f < c)=false:=by simp;omega
 have P:decide ((f:Int) -(c:Int) < 4)=false:=by simp;omega
 clear d m r G;go_enter func158,ntmps158;go_wp2
 go_loop [6,23] (fun I o=>∃a:Nat,a<=4/\o=.int .i64 a/\I=.int .u32 (ofN b c a:Int)) (fun _ o=>4 -(intOf o).toNat)
 case atStart=>exact ⟨0,zAp _,rfl,rfl⟩
 case round=>
  obtain ⟨a,Q,rfl,rfl⟩:=hrel;by_cases F:a < 4
  · obtain ⟨K,R,S,rfl,M,v,D⟩:=y.out.get (k:=c+a) oM;have l:∃j,b[c+a]?=some j:=⟨b[c+a]'(by have:=i.out;omega),zAa (by have:=i.out;omega)⟩;obtain ⟨j,l⟩:=l;simp only [zAf,l,Option.map_some,Option.some.injEq] at v;subst v;unfold bv at D;have u:ofN b c (a+1)=ofN b c a+j.toNat*256 ^ a:=(by rw [ofN,l];rfl);have t:=aIX b c a;obtain ⟨z,x⟩:=hqq2 u t;generalize ofN b c a=acc at*
    have H:j.toNat < 256:=j.toNat_lt;clear l u t;go_wp2;refine ⟨⟨a+1,by omega,by go_num,jA ?_⟩,by simp [intOf];omega⟩;rw [z.out];exact aFk acc j.toNat a x.out H F
  · have C:a=4:=oM;subst C;go_wp2;go_ret2;exact ⟨aAa rfl g.out,rfl⟩
def aJx (c:Option Addr) (a g:Nat) (e:List UInt8) (d:Int) (f:Nat) (b:World) (k:Nat) (j:Int) (m:ofB e d=(k,j)) (p:Rd b f 1 c a (e.map bv)) (n:a<=maxLen):
 Calls prog 158 #[.slice c a g,.int .i64 d] b fun i l=>i=.returned (.tuple #[.int .u32 (k:Int),.int .i64 j])/\b=l:=
 (aJm c a g e d f b p n).mono fun i l ⟨o,q⟩=>⟨by rw [o,m];rfl,q⟩
end
section
def zY:(prog.info? 3).map (fun a=>(a.zero,a.size,a.bytes))=some (some (.int .i64 0),1,8):=by kernel_rfl
def aEW (b:List Int) (a:Int×Nat) (c:a∈bB b):a.1∈b:=by
 have e:=(yR b).1 a c;have d:a.1∈dW (bB b):=List.mem_flatMap.2 ⟨a,c,List.mem_replicate.2 ⟨by omega,rfl⟩⟩;rwa [mD] at d
def aBh {b:List Nat} (c:∀a∈b,a < 257):∀a∈bB (iK b),iX a.1:=by
 intro a d;obtain ⟨f,e,g⟩:=zAy.1 (aEW _ a d);have:=c f e;unfold iX;omega
def mP (a:List Nat):(iK a).length=a.length:=by simp [iK]
def aDr {a:List Nat} (b:∀c∈a,c < 257):pI (iK a)=some (fM a):=by
 unfold pI;rw [zBx (aBh b)];rfl
def oK (a:List Nat):(fM a).length<=11+22*a.length:=by
 unfold fM;have d:=sP (bB (iK a));have c:=kT (iK a);have e:=cY (bB (iK a)).length;rw [mP] at c;have b:eK (bB (iK a))=bP (bB (iK a)).length++(bB (iK a)).flatMap cH:=by simp [eK]
 rw [b,zAi];omega
def zW (c:List Nat) (b a:Nat):List UInt8:=(List.range a).flatMap fun a=>bP (c.idxOf (a*b))
def rL (c:List Nat) (b a:Nat):zW c b (a+1)=zW c b a++bP (c.idxOf (a*b)):=by
 unfold zW;rw [List.range_succ,List.flatMap_append];simp
def pC (c:List Nat) (b a:Nat):(zW c b a).length<=11*a:=by
 induction a with
 | zero=>simp [zW]
 | succ a d=>
   rw [rL,zAi];have:=cY (c.idxOf (a*b));omega
def tI (c:List Nat) (a b:Nat):uD c a b=zW c a (b / a+1):=rfl
def aH2 (c:List Nat) (b a:Nat):a<=(zW c b a).length:=by
 induction a with
 | zero=>simp
 | succ a d=>
   rw [rL,zAi];have:=aHh (c.idxOf (a*b));omega
def aI2 {c a b:Nat} (g:1<=a) (f:c<=b / a+1) (d:¬c*a<=b):c=b / a+1:=by
 have e:b / a < c:=(Nat.div_lt_iff_lt_mul oM).2 oM;omega
def aIY {c a b:Nat} (e:1<=a) (d:c*a<=b):c+1<=b / a+1:=by
 have:=(Nat.le_div_iff_mul_le oM).2 d;omega
end
section
open Go.RowKit
def aEP (a:Int) (b:World) (d:iX a):Calls prog 149 #[.int .i64 a] b fun c e=>c=.returned (.bool true)/\b=e:=by
 obtain ⟨f,g⟩:=d;go_enter func149,ntmps149;go_wp2;go_ret;exact ⟨pG (by simp <;> omega),rfl⟩
def aGl (a:Int) (b:World) (d:¬iX a):Calls prog 149 #[.int .i64 a] b fun c g=>c=.returned (.bool false)/\b=g:=by
 have e:a < 0∨(0<=a/\257<=a):=by unfold iX at d;omega
 rcases e with f |⟨f,i⟩
 · go_enter func149,ntmps149;go_wp2;go_ret;exact ⟨pG (by simp <;> omega),rfl⟩
 · go_enter func149,ntmps149;go_wp2;go_ret;exact ⟨pG (by simp <;> omega),rfl⟩
def aIz (f g:World) (e:Option (List UInt8)) (d:Ending):Prop:=
 (∃a b c,e=some a/\d=.returned (.tuple #[.slice b a.length c,.int .i64 0])/\Made g f.heap.size 5 1 b a.length c (a.map bv))∨
 (e=none/\d=.returned (.tuple #[.slice none 0 0,.int .i64 1]))
def aDT (N:Option Addr) (y au O:Nat) (k:List Int) (e:World) (I:Rd e O 1 N y (k.map iv)) (aC:O<=e.heap.size) (b7:y<=1000000):
 Calls prog 123 #[.slice N y au] e fun o ab=>aIz e ab (pI k) o/\Below e.heap.size e ab:=by
 obtain ⟨aW,aG,aS,aT,aV⟩:=info_parts jN;have aJ:k.length=y:=by simpa using I.1
 obtain ⟨b,s⟩:=eqx (bB k);obtain ⟨c,a2⟩:=eqx b.length;have b8:c<=1000000:=by have:=kT k;rw [s] at this;omega
 have T:∀d∈b,d.2<=1000000:=fun d f=>by have:=oF k d (by rw [s];exact f);omega
 have ag:=lhd T;have a5:pI k=if ∀d∈b,iX d.1 then some (eK b) else none:=by unfold pI;rw [s]
 obtain ⟨P,ar,n,ap⟩:=hqq4 a5 s a2 I;have b1:=Below.refl e.heap.size e;clear I aJ s a2 a5 T;go_enter func123,ntmps123;go_wp2_with fail;refine (aHH _ _ _ _ k _ b c ar.out n.out ap.out aC oM).mono ?_;rintro o w1 ⟨z,B,rfl,X,E⟩;have aN:=E.size;have an:=lhd X.own;clear X;obtain ⟨k0,G⟩:=eqx ((bP c).length);have b5:k0<=11:=by rw [<-G];exact cY c
 have aj:=lhd G;clear G;go_wp2_with fail;refine (wQ _ _ _ _ [c] _ (bP c) k0 (oL c) aj.out (Rd.made _ _ 1 1 _ rfl) nL (by simp;omega) oM).mono ?_;rintro o L ⟨ae,aw,rfl,Y,u⟩;have R:=(E.alloc aN _).trans (u.mono (by simp;omega));have bb:=R.size;have ba:w1.heap.size < L.heap.size:=by have:=u.size;simp at this;omega
 have aK:L.ownsRow e.heap.size 5 1 (.slice ae k0 aw) k0 ((bP c).map bv):=bV Y.own (by simp;omega);have j:L.ownsRow e.heap.size 231 2 (.slice z c B) c (bU b):=aQ (an.out.alloc _) u;clear Y u E;go_wp2_with fail;go_loopw [5,17] (fun aY K wr=>∃a l:Nat,a<=c/\K=.int .i64 a/\wr.ownsRow e.heap.size 5 1 aY l ((bP c++(b.take a).flatMap cH).map bv)/\wr.ownsRow e.heap.size 231 2 (.slice z c B) c (bU b)/\Below e.heap.size e wr/\∀d∈b.take a,iX d.1) (fun _ K _=>c -(intOf K).toNat)
 case atStart=>exact ⟨0,k0,zAp _,rfl,by simpa using aK,j,R,by simp⟩
 case round=>
  obtain ⟨a,l,b4,rfl,r,j,t,a4⟩:=hrel;have A:=lhd a4;have a8:=t.size;have b9:l<=22000011:=by have D:=r.1;have Q:=sP (b.take a);have aA:=cY c;rw [zAj] at Q;simp only [zBc,zAi] at D;omega
  clear a4;by_cases W:a < c
  · obtain ⟨d,f⟩:∃d,b[a]?=some d:=⟨b[a]'(by have:=n.out;omega),zAa (by have:=n.out;omega)⟩;obtain ⟨i,aB,b3⟩:∃i,z=some ⟨i,0,none⟩/\i < wr.heap.size:=(by obtain ⟨i,b0,aO,_,W⟩:=j.form oM;injection aO with D Q aA;exact ⟨i,D,W⟩);subst aB;have ay:wr.cell? ⟨i,a*2,none⟩=some (.int .i64 d.1):=(j.cellAt (a*2) oM).trans ((iO b a 0 d f oM).trans rfl);have az:wr.cell? ⟨i,a*2+1,none⟩=some (.int .i64 (d.2:Int)):=(j.cellAt (a*2+1) oM).trans ((iO b a 1 d f oM).trans rfl);have a3:=xE b a d f;have aP:=ag.out d (zAd f);have V:∀g∈b.take (a+1),g∈b.take a∨g=d:=(by intro g aa;have aH:a < b.length:=(zAc.1 f).1;rw [List.take_succ_eq_append_getElem aH,(zAc.1 f).2] at aa;simpa using aa);have a1:=zAd f;obtain ⟨aX,g⟩:=d;simp only at ay az aP;obtain ⟨am,ai,al⟩:=hqq3 a3 V a1;clear a3 f V a1;by_cases p:iX aX
    · obtain ⟨m,rfl⟩:=Int.eq_ofNat_of_zero_le p.1;have bc:(m:Int) < 257:=p.2;have q:=lhd p;clear p;obtain ⟨x,H⟩:=eqx ((cH ((m:Int),g)).length);have b6:x<=22:=(by rw [<-H];exact sL _);have ak:=lhd H;have U:dE [m,g]=cH ((m:Int),g):=(by simp [dE,cH]);have ah:=lhd U;clear H U;go_wp2_with (go_at_call 149;refine (aEP _ _ q.out).mono ?_;rintro o aZ ⟨rfl,rfl⟩);refine (wQ _ _ _ _ [m,g] _ (cH ((m:Int),g)) x ah.out ak.out (Rd.made' _ _ 1 2 _ _ rfl (by simp)) nL (by simp;omega) oM).mono ?_;rintro o M ⟨af,ax,rfl,a0,v⟩;have S:=((t.alloc a8 _).alloc (by simp;omega) _).trans (v.mono (by simp;omega));have a7:=S.size;have w:M.ownsRow e.heap.size 5 1 u5 l ((bP c++(b.take a).flatMap cH).map bv):=aQ ((r.alloc _).alloc _) v;have J:M.ownsRow e.heap.size 231 2 (.slice (some ⟨i,0,none⟩) c B) c (bU b):=aQ ((j.alloc _).alloc _) v;have aq:=lhd a0.rd;have ao:=lhd (kX (cH ((m:Int),g)));clear a0 v r j;go_wp2_with (at_builtin;refine bQ _ rfl (.tmp 25) (.tmp 33) _ rfl e.heap.size 5 aW (.int .u8 0) 1 1 underlying34 aG aS aT aV rfl dC u5 l _ rfl w M.heap.size af x ax _ rfl aq.out ao.out (by unfold maxLen;omega) oM a7 ?_;intro bd be aL F aF);have aD:=bG S w F a7;have aM:=J.kept F (aDc J w dC);clear F aF J w;go_roundw
      case rel=>refine ⟨a+1,l+x,by omega,by go_num,?_,aM,aD,?_⟩;rw [am.out,<-zCn,zAz];exact aL;intro ac aR;rcases ai.out ac aR with C | C;exact A.out ac C;rw [C];exact q.out
      case measure=>simp [intOf];omega
    · have q:=lhd p;clear p;go_wp2_with (go_at_call 149;refine (aGl _ _ q.out).mono ?_;rintro o aZ ⟨rfl,rfl⟩);go_ret2;refine ⟨.inr ⟨?_,rfl⟩,t.alloc a8 _⟩;rw [P.out,zBw];intro aE;exact q.out (aE _ al.out)
  · have aI:a=c:=oM;have b2:c<=a:=oM;have a9:b.take a=b:=zAg (by have:=n.out;omega);rw [a9] at r A;clear aI a9 j;obtain ⟨ad,av,rfl,Z⟩:=aU r;go_wp2;go_ret2;have a6:(eK b).length=l:=(by have:=Z.len;rw [zBc] at this;rw [<-this,eK,n.out]);refine ⟨.inl ⟨eK b,ad,av,?_,?_,?_⟩,t⟩
    · rw [P.out,zBx A.out]
    rw [a6];rfl;rw [a6,eK,n.out];exact Z
def aA4 (e f:World) (a:List Int×Int) (d:Ending):Prop:=
 ∃b c,d=.returned (.tuple #[.slice b a.1.length c,.int .i64 a.2])/\Made f e.heap.size 3 1 b a.1.length c (a.1.map iv)
def fV {d e:World} {b:List Int×Int} {a:Int} (c:([],a)=b):aA4 d e b (.returned (.tuple #[.slice none 0 0,.int .i64 a])):=by
 subst c;exact ⟨none,0,rfl,⟨World.ownsRow_nil _ _ _ _,Rd.nil _ _ _ _,zAs _,zAp _⟩⟩
def tA (a0:Option Addr) (s S:Nat) (e:List UInt8) (Q:Int) (k:World) (E:TypeInfo) (az:prog.info? 3=some E) (aE:E.zero=some (.int .i64 0)) (aF:E.size=1) (aG:E.bytes=8)
 (B:Hid (e.length=s)) (a4:Hid (Rd k k.heap.size 1 a0 s (e.map bv))) (ap:Below k.heap.size k k) (j:s<=S) (i:S<=maxLen) (t:List Int×Int) (R F:Nat) (ar:F<=s)
 (aj:Hid (dU e 0=(R,(F:Int),0))) (am:Hid (R < 18446744073709551616)) (f:Nat) (ak:Hid (rgo e f R F 257 []=t)) (aT:f<=1099511627776) (a8:Q=(f:Int)∨(Q < 0/\f<=0)):
 Calls prog 161 #[.slice a0 s S,.int .i64 Q] k fun a ah=>aA4 k ah t a/\Below k.heap.size k ah:=by
 have a2:=lhd a8;clear a8;go_enter func161,ntmps161;go_wp2_with (go_at_call 231;refine (eQ _ _ _ _ _ _ _ _ _ _ aj.out a4.out j i).mono ?_;rintro a n ⟨rfl,rfl⟩);go_loopw [6,7,9,10] (fun Z aI Y aJ wr=>∃(q o r:Nat) (m:List Int),Z=.int .u64 (q:Int)/\aI=.int .i64 (o:Int)/\aJ=.int .u64 (r:Int)/\wr.ownsRow k.heap.size 3 1 Y m.length (m.map iv)/\m.length<=f/\o<=s/\q < 18446744073709551616/\rgo e f q o r m=t/\Below k.heap.size k wr) (fun Z _ _ _ _=>(intOf Z).toNat)
 case atStart=>exact ⟨R,F,257, [],rfl,rfl,rfl,World.ownsRow_nil _ _ _ _,zAp _,ar,am.out,ak.out,ap⟩
 case round=>
  obtain ⟨q,o,r,m,rfl,rfl,rfl,C,au,aq,ac,a9,p⟩:=hrel;obtain ⟨x,al⟩:=hqq2 a9 ac;have aW:=p.size;have ad:=a4.out.below p;have l:=lhd ad;clear a9 ac ad;rcases q with _ | q
  · have aP:((0:Nat):Int)=0:=rfl;by_cases K:o=s
    · have c:(m,0)=t:=(by rw [<-x.out,rgo,zBx (by rw [B.out];exact K)]);have g:=lhd c;have W:((o:Int)==(s:Int))=true:=(by rw [zCq];omega);obtain ⟨a1,a7,rfl,V⟩:=aU C;clear K c C;go_wp2;go_ret2;refine ⟨?_,p⟩;rw [<-g.out];exact ⟨a1,a7,rfl,V⟩
    · have c:([],4)=t:=(by rw [<-x.out,rgo,zBw (by rw [B.out];exact K)]);have g:=lhd c;have W:((o:Int)==(s:Int))=false:=(by rw [zCb];omega);clear K c;go_wp2;go_ret2;exact ⟨fV g.out,p⟩
  · have D:o<=e.length:=(by rw [B.out];exact aq);rcases h1:dV (e.drop o) true 0 o with _ |⟨b,A⟩
    · have c:([],4)=t:=(by rw [<-x.out,aBy _ _ _ _ _ _ (aBr _ _ h1)]);obtain ⟨g,v⟩:=hqq2 c (oJ e o D h1);clear c D h1;go_wp2_with (go_at_call 231;refine (eQ _ _ _ _ _ _ _ _ _ _ v.out l.out j i).mono ?_;rintro a n ⟨rfl,rfl⟩);go_ret2;exact ⟨fV g.out,p⟩
    · have M:=vE _ _ _ _ _ _ h1;have y:=oI e o b A D h1;have aD:A<=s:=(by rw [zAw,B.out] at M;omega);have P:A<=e.length:=(by rw [B.out];exact aD);obtain ⟨v,aL⟩:=hqq2 y M.2.2;rcases h2:dV (e.drop A) true 0 A with _ |⟨d,a⟩
      · have c:([],4)=t:=(by rw [<-x.out,aBy _ _ _ _ _ _ (aBq _ _ _ _ h1 h2)]);obtain ⟨g,w⟩:=hqq2 c (oJ e A P h2);clear c D h1 h2 y M P;go_wp2_with fail;refine (eQ _ _ _ _ _ _ _ _ _ _ v.out l.out j i).mono ?_;rintro a n ⟨rfl,rfl⟩;go_wp2_with fail;refine (eQ _ _ _ _ _ _ _ _ _ _ w.out l.out j i).mono ?_;rintro a n ⟨rfl,rfl⟩;go_wp2;go_ret2;exact ⟨fV g.out,p⟩
      · have U:=vE _ _ _ _ _ _ h2;have H:=oI e A d a P h2;have ax:a<=s:=(by rw [zAw,B.out] at U;omega);have w:=lhd H;have ae:rgo e f (q+1) o r m=if 257<=b∨b=r∨d=0 then ([],4) else if f - m.length < d then ([],3) else rgo e f q a b (m++List.replicate d (b:Int)):=aBx _ _ _ _ _ _ _ _ _ (uI _ _ _ _ _ _ h1 h2);obtain ⟨a5,aK⟩:=hqq2 ae U.2.2;clear D h1 h2 y M P H U ae;by_cases I:257<=b∨b=r∨d=0
        · have c:([],4)=t:=(by rw [<-x.out,a5.out,zBx I]);have g:=lhd c;have aw:257<=b∨(b < 257/\b=r)∨(b < 257/\b≠r/\d=0):=oM;clear c I;rcases aw with G |⟨G,T⟩|⟨G,T,ao⟩
          · go_wp2_with fail;refine (eQ _ _ _ _ _ _ _ _ _ _ v.out l.out j i).mono ?_;rintro a n ⟨rfl,rfl⟩;go_wp2_with fail;refine (eQ _ _ _ _ _ _ _ _ _ _ w.out l.out j i).mono ?_;rintro a n ⟨rfl,rfl⟩;go_wp2;go_ret2;exact ⟨fV g.out,p⟩
          · subst T;go_wp2_with fail;refine (eQ _ _ _ _ _ _ _ _ _ _ v.out l.out j i).mono ?_;rintro a n ⟨rfl,rfl⟩;go_wp2_with fail;refine (eQ _ _ _ _ _ _ _ _ _ _ w.out l.out j i).mono ?_;rintro a n ⟨rfl,rfl⟩;go_wp2;go_ret2;exact ⟨fV g.out,p⟩
          · subst ao;have W:((b:Int)==(r:Int))=false:=(by rw [zCb];omega);clear T;go_wp2_with fail;refine (eQ _ _ _ _ _ _ _ _ _ _ v.out l.out j i).mono ?_;rintro a n ⟨rfl,rfl⟩;go_wp2_with fail;refine (eQ _ _ _ _ _ _ _ _ _ _ w.out l.out j i).mono ?_;rintro a n ⟨rfl,rfl⟩;go_wp2;go_ret2;exact ⟨fV g.out,p⟩
        · have aM:b < 257:=oM;have aS:0 < d:=oM;have aX:((d:Int)==0)=false:=(by rw [zCb];omega);have aY:decide ((257:Int)<=(b:Int))=false:=(by simp;omega);have W:((b:Int)==(r:Int))=false:=(by rw [zCb];omega);obtain ⟨z,O⟩:=eqx m.length;have af:rgo e f (q+1) o r m=if f - z < d then ([],3) else rgo e f q a b (m++List.replicate d (b:Int)):=(by rw [a5.out,zBw I,O]);obtain ⟨a6,a3⟩:=hqq2 af O;rw [O] at C au;obtain ⟨a1,a7,rfl,V⟩:=aU C;have an:=lhd C;have aB:=al.out;have aA:∃aH:Int,aH=(f:Int) -(z:Int):=⟨_,rfl⟩;clear I af O V C aA;by_cases L:f - z < d
          · have c:([],3)=t:=(by rw [<-x.out,a6.out,zBx L]);have g:=lhd c;have ay:(f:Int) -(z:Int) < (d:Int):=oM;clear c L aB;rcases a2.out with J |⟨J,aN⟩
            · subst J;go_wp2_with fail;refine (eQ _ _ _ _ _ _ _ _ _ _ v.out l.out j i).mono ?_;rintro a n ⟨rfl,rfl⟩;go_wp2_with fail;refine (eQ _ _ _ _ _ _ _ _ _ _ w.out l.out j i).mono ?_;rintro a n ⟨rfl,rfl⟩;go_wp2;go_ret2;exact ⟨fV g.out,p⟩
            · go_wp2_with fail;refine (eQ _ _ _ _ _ _ _ _ _ _ v.out l.out j i).mono ?_;rintro a n ⟨rfl,rfl⟩;go_wp2_with fail;refine (eQ _ _ _ _ _ _ _ _ _ _ w.out l.out j i).mono ?_;rintro a n ⟨rfl,rfl⟩;go_wp2;go_ret2;exact ⟨fV g.out,p⟩
          · have c:rgo e f q a b (m++List.replicate d (b:Int))=t:=(by rw [<-x.out,a6.out,zBw L]);have g:=lhd c;have ay:(d:Int)<=(f:Int) -(z:Int):=oM;have J:Q=(f:Int):=(by rcases a2.out with G |⟨_,G⟩<;> omega);subst J;clear c L;go_wp2_with fail;refine (eQ _ _ _ _ _ _ _ _ _ _ v.out l.out j i).mono ?_;rintro a n ⟨rfl,rfl⟩;go_wp2_with fail;refine (eQ _ _ _ _ _ _ _ _ _ _ w.out l.out j i).mono ?_;rintro a n ⟨rfl,rfl⟩;go_wp2;go_loopw [9,73] (fun Y X ai=>∃u:Nat,u<=d/\X=.int .u64 (u:Int)/\ai.ownsRow k.heap.size 3 1 Y (z+u) ((m++List.replicate u (b:Int)).map iv)/\Below k.heap.size k ai) (fun _ X _=>d -(intOf X).toNat)
            case atStart=>exact ⟨0,zAp _,rfl,by simpa using an.out,p⟩
            case round=>
             obtain ⟨u,aQ,rfl,N,y⟩:=hrel;have ag:=y.size;by_cases aR:u < d
             · go_wp2_with (at_builtin;refine bM _ rfl (.tmp 75) (.tmp 78) _ rfl k.heap.size 3 E (.int .i64 0) 1 8 underlying48 az aE aF aG rfl dC u9 (z+u) _ rfl N rfl rfl (by simp [Value.oneCell']) (by unfold maxLen;omega) oM ag ?_;intro aZ b0 aC aa aV av);have H:=bG y N aa ag;clear aa av;go_roundw
               case rel=>refine ⟨u+1,by omega,by go_num,?_,H⟩;rw [List.replicate_succ',<-zCn,zAz];exact aC
               case measure=>simp [intOf];omega
             · have ab:u=d:=oM;have aO:d<=u:=oM;rw [ab] at N;clear ab;go_wp2;refine ⟨⟨q,a,b,m++List.replicate d (b:Int),jA oM,rfl,rfl,?_,?_,ax,by omega,g.out,y⟩,by simp [intOf]⟩;rw [zAi,zCm,a3.out];exact N;rw [zAi,zCm,a3.out];omega
def aDU (n:Option Addr) (e i x:Nat) (a:List UInt8) (b:Int) (c:World) (q:Rd c x 1 n e (a.map bv)) (L:x<=c.heap.size) (w:e<=i) (u:i<=maxLen) (N:b<=1099511627776) (O:-9223372036854775808<=b):
 Calls prog 161 #[.slice n e i,.int .i64 b] c fun A K=>aA4 c K (lA a b) A/\Below c.heap.size c K:=by
 obtain ⟨J,C,G,H,I⟩:=info_parts zY;have v:a.length=e:=by simpa using q.1
 obtain ⟨y,r⟩:=hqq2 v (q.mono L);have s:=Below.refl c.heap.size c;obtain ⟨p,l⟩:=eqx (lA a b);rw [l];rcases hfirst:dV a true 0 0 with _ |⟨m,f⟩
 · have j:dU a 0=(0,0,4):=oJ a 0 (zAp _) (by simpa using hfirst);have k:([],4)=p:=(by rw [<-l,lA,hfirst]);obtain ⟨o,g⟩:=hqq2 j k;clear q v l j k hfirst;go_enter func161,ntmps161;go_wp2_with (go_at_call 231;refine (eQ _ _ _ _ _ _ _ _ _ _ o.out r.out w u).mono ?_;rintro A R ⟨rfl,rfl⟩)
   go_loop [6] (fun Q=>Q=.int .u64 0) (fun _=>0)
   case atStart=>rfl
   case round=>subst hrel;go_wp2;go_ret2;exact ⟨fV g.out,s⟩
 have D:=vE _ _ _ _ _ _ hfirst;have j:dU a 0=(m,(f:Int),0):=oI a 0 m f (zAp _) (by simpa using hfirst);have k:rgo a b.toNat m f 257 []=p:=(by rw [<-l,lA,hfirst]);have B:f<=e:=oM;obtain ⟨o,g,z⟩:=hqq3 j k D.2.2;obtain ⟨d,F⟩:∃d:Nat,b.toNat=d:=⟨_,rfl⟩;rw [F] at g;have E:d<=1099511627776:=oM;have t:b=(d:Int)∨(b < 0/\d<=0):=oM;clear q v l j k hfirst D F N O;rcases t with t |⟨P,M⟩;subst t;exact tA n e i a (d:Int) c J C G H I y r s w u p m f B o z d g E (.inl rfl);exact tA n e i a b c J C G H I y r s w u p m f B o z d g E (.inr ⟨P,M⟩)
def aFQ (g:Option Addr) (f d i:Nat) (j:List UInt8) (b:Int) (a:World) (k:List Int) (l:Nat) (q:Int) (r:lA j b=(k,q)) (y:k.length=l) (z:Rd a i 1 g f (j.map bv)) (s:i<=a.heap.size) (v:f<=d) (u:d<=maxLen) (w:b<=1099511627776) (x:-9223372036854775808<=b):
 Calls prog 161 #[.slice g f d,.int .i64 b] a fun n m=>∃c e,n=.returned (.tuple #[.slice c l e,.int .i64 q])/\Made m a.heap.size 3 1 c l e (k.map iv)/\Below a.heap.size a m:=by
 subst y;refine (aDU g f d i j b a z s v u w x).mono fun n m ⟨⟨c,e,o,p⟩,t⟩=>?_;rw [r] at o p;exact ⟨c,e,o,p,t⟩
def aD0 (a:World):Calls prog 222 #[.slice none 0 0,.int .i64 0,.int .i64 0] a fun b c=>b=.returned (.tuple #[])/\c=a:=by
 go_enter func222,ntmps222;go_wp2_with fail;go_loopw [6] (fun d wr=>d=.int .i64 1/\wr=a) (fun _ _=>0)
 case atStart=>exact ⟨rfl,rfl⟩
 case round=>obtain ⟨rfl,rfl⟩:=hrel;go_wp2_with fail;go_end0;exact ⟨rfl,rfl⟩
def aDY (c:Int) (a:World):Calls prog 157 #[.slice none 0 0,.int .i64 0,.int .i64 0,.int .i64 c] a fun b d=>b=.returned (.tuple #[])/\d=a:=by
 go_enter func157,ntmps157;go_wp2_with fail;go_loopw [1,2] (fun e f wr=>e=.int .i64 0/\f=.int .i64 0/\wr=a) (fun _ _ _=>0)
 case atStart=>exact ⟨rfl,rfl,rfl⟩
 case round=>obtain ⟨rfl,rfl,rfl⟩:=hrel;go_wp2_with fail;refine (aD0 wr).mono ?_;rintro b w1 ⟨rfl,rfl⟩;go_wp2_with fail;exact bodyPost_ret (results_none rfl _ _ _) rfl ⟨rfl,rfl⟩
def aCn (b:World):Calls prog 85 #[.slice none 0 0] b fun a c=>a=.returned (.tuple #[])/\c=b:=by
 have e:Calls prog 100 #[.int .u64 0] b fun a c=>a=.returned (.int .i64 (Lib.bitLen (0:Int).toNat))/\c=b:=calls_of_every_depth fun d=>AnyS.bits_LenIn shLen d 0 b oM oM;go_enter func85,ntmps85;go_wp2_with fail;refine e.mono ?_;rintro a w1 ⟨rfl,rfl⟩;go_wp2_with fail;refine (aDY _ w1).mono ?_;rintro a f ⟨rfl,rfl⟩;go_wp2_with fail;go_end0;exact ⟨rfl,rfl⟩
def aCm (s:Nat) (y:Value) (a:Nat) (c:List Int) (b:World) (u:b.ownsRow s 3 1 y a (c.map (Value.int .i64))) (C:c.length=a) (K:a<=1000):
 ∃i j,y=.slice i a j/\Calls prog 85 #[.slice i a j] b fun d k=>d=.returned (.tuple #[])/\k.ownsRow s 3 1 (.slice i a j) a ((c.mergeSort fun q r=>decide (q<=r)).map (Value.int .i64))/\Keep (fun l=>(Value.slice i a j).ownBlock=some l) b k:=by
 subst C;rcases u.2 with ⟨m,v⟩|⟨e,t,J,m,o,p,D,B,F,G⟩;subst m;refine ⟨none,0,by rw [v],?_⟩;have H:c= []:=zBk v;subst H;refine (aCn b).mono ?_;rintro d k ⟨rfl,rfl⟩;exact ⟨rfl,by simpa using u,Keep.refl _ _⟩
 · subst m;refine ⟨_,t,rfl,?_⟩;have A:e < b.heap.size:=(zAh.1 p).1;have z:Sort.Holds (Value.int .i64) b e 0 c.toArray:=holds_of_blockI p (by rw [<-G];simp);refine (Any.slices_Sort_int shSrt e 0 t c b z A oM).mono ?_;rintro d k ⟨rfl,I,x,rfl⟩;have f:=grownBy_sortedI (w:=b) (g:=e) (n:=I) (os:=x) (c.mergeSort fun q r=>decide (q<=r)).toArray;refine ⟨rfl,ownsRow_sortedI (by simp) o p D B F,⟨f.os,f.tape,f.output,f.size,fun l o E=>f.block l o (fun d=>E d.symm)⟩⟩
end
end Go.Proofs.YtcfpmjbojoidoaaGreatDoor
