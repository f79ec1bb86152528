/- Lemmas of the walk. Conditions: each its own. -/
import Derived.Test.YtihaijbgmjdhgaaGreatDoorPp1
import Derived.Test.YtihaijbgmjdhgaaGreatDoorPp3
import Derived.Test.YtihaijbgmjdhgaaGreatDoorProg
set_option linter.all false
set_option maxRecDepth 100000
set_option maxHeartbeats 4000000
namespace Go.Proofs.YtihaijbgmjdhgaaGreatDoor
open Tryz
section
open Go.ChangeShapes Go.WideShapes Go.ChangeAt Go.RowKit
theorem zB:laidOutB prog=true:=by kernel_rfl
theorem own:ownKnob prog.godebug=none:=by kernel_rfl
theorem aCN {l:IntKind} {d:World} {e:Addr} {c g:Nat} {b:List Int} (u:c<=g) (v:b.length=g) (n:0 < c->e.block < d.heap.size)
 (i:∀f,f < b.length->d.cell? (e.add f)=some (.int l (b.getD f 0))):Rd d d.heap.size 1 (some e) c ((b.take c).map (Value.int l)):=by
 refine ⟨by simp;omega,fun p=>?_⟩;have o:=i 0 oM;obtain ⟨m,r,s⟩:=e;have q:s=none:=by simpa [Addr.add] using World.cell?_spot o
 subst q;refine ⟨m,r,rfl,n p,fun k w a=>?_⟩;simp only [zAf,zBq] at a;split at a
 · rename_i t
   have:=i k oM;rw [eI] at this;rw [this];have j:k < b.length:=oM;rw [zAa j] at a;simp only [Option.map_some,Option.some.injEq] at a;rw [<-a,zAb,zAa j];rfl
 · simp at a
theorem aCh (a:List Int) (d:∀c∈a,(Lit.int .u8 c).wf=true):∃b:List UInt8,a.map (Value.int .u8)=b.map bv:=by
 induction a with
 | nil=>exact ⟨[],rfl⟩
 | cons e a i=>
   obtain ⟨b,f⟩:=i fun c g=>d c (List.mem_cons_of_mem _ g);have j:=bounds_u8 (d e (List.mem_cons_self ..));refine ⟨UInt8.ofNat e.toNat::b,?_⟩;simp only [List.map_cons,f];congr 1;unfold bv;congr 1;simp [UInt8.toNat_ofNat'];omega
theorem aCk {k:Type} {r:TypeId×Value->k} {q g:TypeId} {i:IntKind} {f:World} {l:Option Addr} {e c:Nat} {d:DataW k} {p:List MemPlace}
 (x:prog.underlying q=some (.slice g)) (u:prog.underlying g=some (.int i)) (t:prog.cellsOf g=1)
 (s:DataW.Trod r prog f 0 (fun _=>true) true q (.slice l e c) d p):
 ∃b:List Int,Rd f f.heap.size 1 l e (b.map (Value.int i))/\(∀j∈b,(Lit.int i j).wf=true)/\e<=c/\c<=maxLen:=by
 obtain ⟨D,v⟩:=s;rcases open_ints x u t v with ⟨a,_⟩|⟨B,F,C,b,a,_,n,w,z,E,m,y⟩;simp [Value.cells] at a;obtain ⟨rfl,rfl,rfl⟩:=a;exact ⟨[],Rd.nil _ _ _ _,by simp,zAs _,zAp _⟩;simp [Value.cells] at a;obtain ⟨rfl,rfl,rfl⟩:=a;have A:b.length=c:=(by simpa using z);refine ⟨b.take e,aCN n A (fun o=>?_) m,fun j o=>y j (List.mem_of_mem_take o),n,w⟩;have:=World.block_lt_of_cell? f (B.add 0) (m 0 oM);simpa [Addr.add] using this
end
section
def aCa {α:Type} (b:List α) (a:Nat):List α:=b.take a++b.drop (a+1)
theorem aB9 {α:Type} (c:List α) {a:Nat} (f:a < c.length) (b:Nat):(aCa c a)[b]?=if b < a then c[b]? else c[b+1]?:=by
 unfold aCa;have e:(c.take a).length=a:=by rw [zAj];omega
 by_cases d:b < a
 · rw [zBv d,zAn oM,zBq,zBv d]
 rw [zBu d,zAo oM,e,zBr];congr 1;omega
theorem rE (a:List Bool) {c:Nat} (d:c < a.length) (b:Nat):(aCa a c).getD b false=if b < c then a.getD b false else a.getD (b+1) false:=by
 rw [zAb,aB9 a d];split
 · rw [zAb]
 · rw [zAb]
theorem zM (d:List Bool) (c b:Nat):(d.take c).getD b false=(decide (b < c)&&d.getD b false):=by
 rw [zAb,zBq];by_cases a:b < c
 · rw [zBv a,zAb];simp [a]
 · rw [zBu a];simp [a]
theorem aAD (b:List Bool) (c a:Nat):(b.drop c).getD a false=b.getD (c+a) false:=by
 rw [zAb,zBr,zAb]
def aDG (a b:Nat) (c:Bool):Nat:=(a % 2 ^ b|||(a / 2&&&(18446744073709551615 - a / 2 % 2 ^ b)))|||(if c then 9223372036854775808 else 0)
theorem aCW (b a:Nat) (c:b < 18446744073709551616):(18446744073709551615 - b).testBit a=(decide (a < 64)&& !b.testBit a):=by
 have:=Nat.testBit_two_pow_sub_succ (n:=64) (x:=b) oM a;rw [<-this];congr 1;omega
theorem aD1 (c b a:Nat):(c % 2 ^ b).testBit a=(decide (a < b)&&c.testBit a):=Nat.testBit_mod_two_pow _ _ _
theorem aCQ (b a:Nat):(2 ^ b).testBit a=decide (b=a):=Nat.testBit_two_pow
theorem aDC (a c:Nat) (b:a < 18446744073709551616):a % 2 ^ c < 18446744073709551616:=Nat.lt_of_le_of_lt (Nat.mod_le _ _) b
theorem aDE (b a:Nat) (d:b < 18446744073709551616) (c:64<=a):b.testBit a=false:=Nat.testBit_lt_two_pow (zAl d (zBn (n:=2) dC c))
theorem aC5 (b d a:Nat) (c:Bool) (j:b < 18446744073709551616) (o:d < 64):(aDG b d c).testBit a=if a < d then b.testBit a else if a < 63 then b.testBit (a+1) else (decide (a=63)&&c):=by
 unfold aDG;have m:b / 2 < 18446744073709551616:=Nat.lt_of_le_of_lt (Nat.div_le_self _ _) j;have n:∀g,(b / 2).testBit g=b.testBit (g+1):=fun g=>by rw [Nat.testBit_succ]
 rw [Nat.testBit_or,Nat.testBit_or,Nat.testBit_and,aCW _ _ (aDC _ d m),aD1,aD1,n];have l:(if c then 9223372036854775808 else 0:Nat).testBit a=(decide (a=63)&&c):=by
  cases c
  · simp
  rw [zBv rfl,show (9223372036854775808:Nat)=2 ^ 63 by decide,aCQ,Bool.and_true];congr 1;exact propext eq_comm
 rw [l];by_cases e:a < d
 · have f:decide (a=63)=false:=zBw oM;rw [zBv e,zBx e,f];cases p:b.testBit a <;> cases q:b.testBit (a+1)<;> simp
 · rw [zBu e,zBw e];by_cases i:a < 63
   · have f:decide (a=63)=false:=zBw oM;have k:decide (a < 64)=true:=zBx oM;rw [zBv i,f,k];simp
   · rw [zBu i,aDE b (a+1) j oM];simp
theorem aB6 (b:List Bool) (a:Nat):(w0 b).testBit a=(decide (a < 64)&&b.getD a false):=by unfold w0;rw [iV,zM]
theorem xT (b:List Bool) (a:Nat):(w1 b).testBit a=b.getD (64+a) false:=by unfold w1;rw [iV,aAD]
theorem aC3 (b:List Bool) (a:Nat) (c:b.length<=a):b.getD a false=false:=by
 rw [zAb,zBf c];rfl
theorem cut_hi (a:List Bool) (k:Nat) (f:k < a.length) (g:a.length<=128) (i:64<=k):w0 (aCa a k)=w0 a/\w1 (aCa a k)=aDG (w1 a) (k - 64) false:=by
 constructor
 · refine Nat.eq_of_testBit_eq fun b=>?_;rw [aB6,aB6,rE a f];by_cases e:b < 64
   · rw [zBx e,zBv oM]
   · rw [zBw e,Bool.false_and,Bool.false_and]
 · refine Nat.eq_of_testBit_eq fun b=>?_;rw [aC5 _ _ _ _ (yV a g) oM,xT,xT,xT,rE a f,Bool.and_false];by_cases c:b < k - 64
   · rw [zBv oM,zBv c]
   · rw [zBu oM,zBu c,show 64+b+1=64+(b+1) by omega];by_cases d:b < 63
     · rw [zBv d]
     rw [zBu d];exact aC3 a _ oM
def dT (a:List (Int×Nat)):List UInt8:=a.flatMap bK
theorem lK (b:Int×Nat) (a:List (Int×Nat)):dT (b::a)=bK b++dT a:=by simp [dT]
theorem nA (a:Int×Nat) (b:List (Int×Nat)):cV (a::b)=List.replicate a.2 a.1++cV b:=by simp [cV]
def zJ:Nat->List (Int×Nat)->Prop
 | _, []=>True
 | last,x::q=>(fQ x.1/\x.1.toNat≠last/\1<=x.2/\x.2 < 18446744073709551616)/\zJ x.1.toNat q
theorem aAg (d:List UInt8) (b:Nat) (a:Int×Nat) (c:List UInt8) (i:fQ a.1) (j:a.2 < 18446744073709551616) (e:d.drop b=bK a++c):jR d b=some (a.1.toNat,a.2,b+(bK a).length):=by
 have f:=jM a.1.toNat (by have:=i.2;omega) (aW a.2++c) b;rw [bK,zCj] at e;rw [<-e] at f;have k:d.drop (b+(aW a.1.toNat).length)=aW a.2++c:=by rw [<-List.drop_drop,e,List.drop_left]
 have g:=jM a.2 j c (b+(aW a.1.toNat).length);rw [<-k] at g;rw [oL _ _ _ _ _ _ f g,bK,zAi,Nat.add_assoc]
theorem aBD (e:List UInt8) (k i:Nat) (l:List UInt8):∀(a:List (Int×Nat)) (c f:Nat) (d:List Int),e.drop c=dT a++l->zJ f a->d.length+(cV a).length<=k->
 ∃x,rgo e k (a.length+i) c f d=rgo e k i (c+(dT a).length) x (d++cV a):=by
 intro a
 induction a with
 | nil=>intro c f d _ _ _;exact ⟨f,by simp [dT,cV]⟩
 | cons b a v=>
   intro c f d j p s;obtain ⟨⟨g,y,z,m⟩,n⟩:=p;rw [lK,zCj] at j;have t:=aAg e c b _ g m j;rw [nA,zAi,zCi] at s;have o:(b::a).length+i=(a.length+i)+1:=(by simp;omega);rw [o,uJ _ _ _ _ _ _ _ _ _ t,zBu (by have:=g.1;have:=g.2;omega),zBu oM];have u:((b.1.toNat:Nat):Int)=b.1:=(by have:=g.1;omega);rw [u];have q:e.drop (c+(bK b).length)=dT a++l:=(by rw [<-List.drop_drop,j,List.drop_left]);obtain ⟨w,r⟩:=v (c+(bK b).length) b.1.toNat (d++List.replicate b.2 b.1) q n (by rw [zAi,zCi];omega);refine ⟨w,?_⟩;rw [r,lK,nA,zAi,zCj,Nat.add_assoc]
theorem aCg (c:List (Int×Nat)) (l:mR c) (e:∀a∈c,fQ a.1/\a.2 < 18446744073709551616) (f:Nat) (o:∀a,c[0]?=some a->a.1.toNat≠f):zJ f c:=by
 induction c generalizing f with
 | nil=>trivial
 | cons a c s=>
   obtain ⟨g,_,i⟩:=l;refine ⟨⟨(e a (List.mem_cons_self ..)).1,o a rfl,g a (List.mem_cons_self ..),(e a (List.mem_cons_self ..)).2⟩,?_⟩;refine s ⟨fun d b=>g d (List.mem_cons_of_mem _ b),List.pairwise_of_forall (by intros;trivial),fun r j k m n=>i (r+1) j k (by simpa using m) (by simpa using n)⟩ (fun d b=>e d (List.mem_cons_of_mem _ b)) _ ?_;intro d b;have:=i 0 a d rfl (by simpa using b);have p:=(e a (List.mem_cons_self ..)).1;have q:=(e d (List.mem_cons_of_mem _ (zAd b))).1;have:=p.1;have:=q.1;omega
theorem xZ (c:List Int) (d:∀a∈aO c,fQ a.1) (e:c.length < 18446744073709551616):zJ 257 (aO c):=
 aCg _ (qS c) (fun a b=>⟨d a b,by have:=jX c a b;omega⟩) 257 fun a b=>by have:=(d a (zAd b)).2;have:=(d a (zAd b)).1;omega
theorem sE (a:List Int) (b:a.length < 18446744073709551616):(aO a).length < 18446744073709551616:=by have:=gZ a;omega
theorem sM (a:List Int) (l:∀m∈aO a,fQ m.1) (f:a.length < 18446744073709551616) (d:Int) (n:(a.length:Int)<=d) (b:List UInt8):
 iD (dA (aO a)++b) d=if b= [] then (a,0) else ([],4):=by
 have i:=jM (aO a).length (sE a f) (dT (aO a)++b) 0;have j:dA (aO a)++b=aW (aO a).length++(dT (aO a)++b):=by simp [dA,dT]
 rw [j,iD,i];simp only [zBh];have k:(aW (aO a).length++(dT (aO a)++b)).drop (aW (aO a).length).length=dT (aO a)++b:=List.drop_left;have e:=iU a;obtain ⟨o,g⟩:=aBD _ d.toNat 0 b (aO a) _ 257 [] k (xZ a l f) (by rw [e];simp;omega);rw [zBo] at g;rw [g,e,List.nil_append,rgo];by_cases c:b= []
 · subst c;rw [zBv (by simp),zBv rfl]
 · have:0 < b.length:=List.length_pos_iff.2 c;rw [zBu (by simp;omega),zBu c]
end
section
open Go.RowKit
theorem aCH (a:World):(sizeOf 5).run prog a=.ok 1 a:=by kernel_rfl
theorem lQ (b a:Nat) (f:b<=144115188075855871) (e:a < 256):bits .or .u64 ((b:Int)*128) (IntKind.u64.wrap (bits .and .u8 (a:Int) 127))=((b*128+a % 128:Nat):Int):=by
 have c:bits .and .u8 (a:Int) 127=((a % 128:Nat):Int):=by have:=u8_and_nat a 127 e oM;rw [nat_mask7] at this;exact this
 have d:IntKind.u64.wrap ((a % 128:Nat):Int)=((a % 128:Nat):Int):=by rw [IntKind.wrap_u64];omega
 rw [c,d,show ((b:Int)*128)=((b*128:Nat):Int) by push_cast;rfl,u64_or_nat _ _ oM oM,nat_join 7 (b*128) (a % 128) oM oM]
theorem jI {b:Nat} {c d:Int} {a:Nat×Int×Int} (e:a=(b,c,d)):Ending.returned (.tuple #[.int .u64 (b:Int),.int .i64 c,.int .i64 d])=Ending.returned (.tuple #[uv a.1,iv a.2.1,iv a.2.2]):=by subst e;rfl
theorem uL {c:Nat} {f b d e:Int} {a:Nat×Int×Int} (j:f=(c:Int)) (i:d=b) (g:a=(c,b,e)):Ending.returned (.tuple #[.int .u64 f,.int .i64 d,.int .i64 e])=Ending.returned (.tuple #[uv a.1,iv a.2.1,iv a.2.2]):=by subst g;subst j;subst i;rfl
theorem aDh (r:Option Addr) (g p:Nat) (d:List UInt8) (j:Int) (K:Nat) (B:World) (y:Rd B K 1 r g (d.map bv)) (V:g<=p) (R:p<=maxLen):
 Calls prog 246 #[.slice r g p,.int .i64 j] B fun O X=>O=.returned (.tuple #[uv (cT d j).1,iv (cT d j).2.1,iv (cT d j).2.2])/\B=X:=by
 unfold maxLen at R;have I:d.length=g:=by simpa using y.1
 obtain ⟨o,N⟩:=hqq2 I y;clear I y;by_cases x:j < 0
 · have m:cT d j=(0,j,2):=(by rw [cT,zBv (.inl x)]);have i:=lhd m;clear m;go_enter func246,ntmps246;go_wp2;go_ret3;exact ⟨jI i.out,rfl⟩
 by_cases F:(g:Int) < j
 · have m:cT d j=(0,j,2):=(by rw [cT,zBv (.inr (by rw [o.out];exact F))]);have i:=lhd m;clear m;go_enter func246,ntmps246;go_wp2;go_ret3;exact ⟨jI i.out,rfl⟩
 obtain ⟨a,rfl⟩:=Int.eq_ofNat_of_zero_le (Int.not_lt.1 x);have H:a<=g:=oM;have m:cT d (a:Int)=match cU (d.drop a) true 0 a with | some (A,W)=>(A,(W:Int),0)| none=>(0,(a:Int),4):=by rw [cT,zBu (by rw [o.out];omega)];rfl
 have i:=lhd m;have w:=N.out.cut (k:=a) (cap:=p) H V;have hcut:=eO (P:=prog) 22 5 1 underlying22 aCH r g p a H;generalize cC r p a 1=A' at w hcut;have L:=lhd w;have a0:decide ((a:Int) < 0)=false:=by simp
 have a1:decide (g < a)=false:=by simp;omega
 clear m x w F;go_enter func246,ntmps246;go_wp2
 go_loop [7,23] (fun A z=>∃c f:Nat,c<=g - a/\z=.int .i64 c/\A=.int .u64 f/\cU (d.drop (a+c)) (c==0) f (a+c)=cU (d.drop a) true 0 a) (fun _ z=>g -(intOf z).toNat)
 case atStart=>exact ⟨0,0,zAp _,rfl,rfl,rfl⟩
 case round=>
  obtain ⟨c,f,a2,rfl,rfl,E⟩:=hrel;have l:=lhd E;clear E;by_cases U:c < g - a
  · obtain ⟨C,a3,a4,rfl,Z,J,Q⟩:=L.out.get U;have q:∃e,d[a+c]?=some e:=⟨d[a+c]'(by have:=o.out;omega),zAa (by have:=o.out;omega)⟩;obtain ⟨e,q⟩:=q;simp only [zBk,zBr,zAf,q,Option.map_some,Option.some.injEq] at J;subst J;unfold bv at Q;have D:d.drop (a+c)=e::d.drop (a+c+1):=(by have T:a+c < d.length:=(by have:=o.out;omega);rw [zAw T];have:d[a+c]=e:=(zAc.1 q).2;rw [this]);have t:e.toNat < 256:=e.toNat_lt;rw [D,iE] at l;clear q D;go_wp2
    · have Y:(e.toNat:Int)=128:=(by assumption);have n:c=0:=(by assumption);go_ret3;refine ⟨jI ?_,rfl⟩;rw [i.out,<-l.out,zBv (by simp;left;omega)]
    · have n:c=0:=(by assumption);have s:((e.toNat:Int)==128)=true∨(144115188075855871:Int) < (f:Int):=(by assumption);go_ret3;refine ⟨jI ?_,rfl⟩;rw [i.out,<-l.out,zBv (by simp at s⊢;omega)]
    · have n:c=0:=(by assumption);have s:¬(e.toNat:Int)=128:=(by assumption);have u:((e.toNat:Int)==128)=false/\(f:Int)<=144115188075855871:=(by assumption);have v:(e.toNat:Int) < 128:=(by assumption);subst n;go_ret3;refine ⟨uL (lQ f _ oM t) ?_ (b:=((a+0+1:Nat):Int)) ?_,rfl⟩;push_cast;rfl
      · rw [i.out,<-l.out,zBu (by simp;omega),zBv oM]
    have n:c=0:=(by assumption);have s:¬(e.toNat:Int)=128:=(by assumption);have u:((e.toNat:Int)==128)=false/\(f:Int)<=144115188075855871:=(by assumption);have v:(128:Int)<=(e.toNat:Int):=(by assumption);subst n;refine ⟨⟨0+1,f*128+e.toNat % 128,by omega,rfl,cG (lQ f _ oM t),?_⟩,by simp [intOf];omega⟩;rw [<-l.out,zBu (by simp;omega),zBu oM];rfl
    · have n:¬c=0:=(by assumption);have s:(144115188075855871:Int) < (f:Int):=(by assumption);go_ret3;refine ⟨jI ?_,rfl⟩;rw [i.out,<-l.out,zBv (by simp;omega)]
    · have n:¬c=0:=(by assumption);have u:(f:Int)<=144115188075855871:=(by assumption);have v:(e.toNat:Int) < 128:=(by assumption);go_ret3;refine ⟨uL (lQ f _ oM t) ?_ (b:=((a+c+1:Nat):Int)) ?_,rfl⟩;push_cast;rfl
      · rw [i.out,<-l.out,zBu (by simp;omega),zBv oM]
    · have n:¬c=0:=(by assumption);have u:(f:Int)<=144115188075855871:=(by assumption);have v:(128:Int)<=(e.toNat:Int):=(by assumption);refine ⟨⟨c+1,f*128+e.toNat % 128,by omega,by go_num,cG (lQ f _ oM t),?_⟩,by simp [intOf];omega⟩;rw [<-l.out,zBu (by simp;omega),zBu oM];rfl
  · have G:c=g - a:=oM;have M:=lhd G;clear G;go_wp2;go_ret3;refine ⟨jI ?_,rfl⟩;have S:d.drop (a+c)= []:=List.drop_eq_nil_of_le (by rw [o.out];have:=M.out;omega);rw [i.out,<-l.out,S,cU]
theorem dD (d:Option Addr) (b a:Nat) (f:List UInt8) (e:Int) (g:Nat) (c:World) (k:Nat) (l j:Int) (n:cT f e=(k,l,j)) (r:Rd c g 1 d b (f.map bv)) (q:b<=a) (o:a<=maxLen):
 Calls prog 246 #[.slice d b a,.int .i64 e] c fun i m=>i=.returned (.tuple #[.int .u64 (k:Int),.int .i64 l,.int .i64 j])/\c=m:=
 (aDh d b a f e g c r q o).mono fun i m ⟨p,s⟩=>⟨by rw [p,n];rfl,s⟩
theorem aAs (c b a:Nat) (g:c < 256 ^ a) (m:b < 256) (l:a < 4):bits .or .u32 (c:Int) ((b:Int)*2 ^(8*a)% 4294967296)=((c+b*256 ^ a:Nat):Int):=by
 have d:(256:Nat)^ a=2 ^(8*a):=by rw [Nat.pow_mul]
 have e:b*256 ^ a < 4294967296:=by have k:b*256 ^ a<=255*256 ^ a:=Nat.mul_le_mul_right _ oM;have i:256 ^ a<=256 ^ 3:=zBn oM oM;omega
 have j:c < 4294967296:=by have i:256 ^ a<=256 ^ 3:=zBn oM oM;omega
 have f:((b:Int)*2 ^(8*a)% 4294967296)=((b*256 ^ a:Nat):Int):=by
  rw [d] at e⊢;have:(b:Int)*2 ^(8*a)=((b*2 ^(8*a):Nat):Int):=by push_cast;rfl
  rw [this];omega
 rw [f,u32_or_nat _ _ j e,Nat.or_comm,nat_join (8*a) (b*256 ^ a) c (by rw [d];exact Nat.mul_mod_left _ _) (by rw [<-d];exact g),zCm]
theorem aA8 (c:Nat) (b:World):
 Calls prog 168 #[.int .u32 (c:Int)] b fun o n=>∃d,o=.returned d/\n.ownsRow b.heap.size 5 1 d 4 ((lM c).map bv)/\Below b.heap.size b n:=by
 obtain ⟨x,s,u,v,w⟩:=info_parts gG;go_enter func168,ntmps168;go_wp2;go_loopw [0,3,4] (fun y d g wr=>∃a:Nat,a<=4/\g=.int .i64 a/\y=.int .u32 ((c / 256 ^ a:Nat):Int)/\wr.ownsRow b.heap.size 5 1 d a ((sN a c).map bv)/\Below b.heap.size b wr) (fun _ _ g _=>4 -(intOf g).toNat)
 case atStart=>exact ⟨0,zAp _,rfl,by simp,World.ownsRow_nil _ _ _ _,Below.refl _ _⟩
 case round=>
  obtain ⟨a,A,rfl,rfl,f,e⟩:=hrel;have j:=e.size;by_cases B:a < 4
  · generalize k:c / 256 ^ a=m;have i:=lhd k;clear k;go_wp2_with (at_builtin;refine aY _ rfl (.tmp 6) (.tmp 9) _ rfl b.heap.size 5 x (.int .u8 0) 1 1 underlying22 s u v w rfl dC u3 a _ rfl f rfl rfl (by simp [Value.oneCell']) (by unfold maxLen;omega) oM j ?_;intro D E l r C z);have q:=aL e f r j;refine ⟨⟨a+1,by omega,by go_num,cG ?_,?_,q⟩,by simp [intOf];omega⟩;rw [Nat.pow_succ,<-Nat.div_div_eq_div_mul,i.out];push_cast;rfl;have t:Value.int .u8 ((m:Int)% 256)=bv (UInt8.ofNat (m % 256)):=(by unfold bv;congr 1;simp [UInt8.toNat_ofNat']);rw [t] at l;rw [sN,i.out];simpa using l
  · have p:a=4:=oM;subst p;go_wp2;go_ret;exact ⟨u3,rfl,f,e⟩
theorem rN (d:Nat) (a:World):
 Calls prog 168 #[.int .u32 (d:Int)] a fun f e=>∃b c,f=.returned (.slice b 4 c)/\Made e a.heap.size 5 1 b 4 c ((lM d).map bv)/\Below a.heap.size a e:=by
 refine (aA8 d a).mono fun f e ⟨l,i,k,g⟩=>?_;obtain ⟨b,c,rfl,j⟩:=aF k;exact ⟨b,c,i,j,g⟩
theorem sH {b:Nat} {d c:Int} {a:Nat×Int} (f:d=(b:Int)) (e:a=(b,c)):Ending.returned (.tuple #[.int .u32 d,.int .i64 c])=Ending.returned (.tuple #[.int .u32 (a.1:Int),iv a.2]):=by subst e;subst f;rfl
theorem aDQ (q:Option Addr) (f A:Nat) (b:List UInt8) (e:Int) (w:Nat) (p:World) (n:Rd p w 1 q f (b.map bv)) (E:f<=maxLen):
 Calls prog 169 #[.slice q f A,.int .i64 e] p fun B J=>B=.returned (.tuple #[.int .u32 ((ofB b e).1:Int),iv (ofB b e).2])/\p=J:=by
 unfold maxLen at E;have s:b.length=f:=by simpa using n.1
 obtain ⟨i,y⟩:=hqq2 s n;clear s n;by_cases m:e < 0
 · have d:ofB b e=(0,2):=(by rw [ofB,zBv (.inl m)]);have g:=lhd d;clear d;go_enter func169,ntmps169;go_wp2;go_ret2;exact ⟨sH rfl g.out,rfl⟩
 by_cases r:(f:Int) < e
 · have d:ofB b e=(0,2):=(by rw [ofB,zBv (.inr (by rw [i.out];exact r))]);have g:=lhd d;clear d;go_enter func169,ntmps169;go_wp2;go_ret2;exact ⟨sH rfl g.out,rfl⟩
 by_cases G:(f:Int) - e < 4
 · have d:ofB b e=(0,4):=(by rw [ofB,zBu (by rw [i.out];omega),zBv (by rw [i.out];omega)]);have g:=lhd d;clear d;go_enter func169,ntmps169;go_wp2;go_ret2;exact ⟨sH rfl g.out,rfl⟩
 obtain ⟨c,rfl⟩:=Int.eq_ofNat_of_zero_le (Int.not_lt.1 m);have d:ofB b (c:Int)=(ofN b c 4,0):=by rw [ofB,zBu (by rw [i.out];omega),zBu (by rw [i.out];omega)];rfl
 have g:=lhd d;have L:c+4<=f:=oM;have N:decide ((c:Int) < 0)=false:=by simp
 have O:decide (f < c)=false:=by simp;omega
 have P:decide ((f:Int) -(c:Int) < 4)=false:=by simp;omega
 clear d m r G;go_enter func169,ntmps169;go_wp2
 go_loop [6,23] (fun I o=>∃a:Nat,a<=4/\o=.int .i64 a/\I=.int .u32 (ofN b c a:Int)) (fun _ o=>4 -(intOf o).toNat)
 case atStart=>exact ⟨0,zAp _,rfl,rfl⟩
 case round=>
  obtain ⟨a,Q,rfl,rfl⟩:=hrel;by_cases F:a < 4
  · obtain ⟨K,R,S,rfl,M,v,D⟩:=y.out.get (k:=c+a) oM;have l:∃j,b[c+a]?=some j:=⟨b[c+a]'(by have:=i.out;omega),zAa (by have:=i.out;omega)⟩;obtain ⟨j,l⟩:=l;simp only [zAf,l,Option.map_some,Option.some.injEq] at v;subst v;unfold bv at D;have u:ofN b c (a+1)=ofN b c a+j.toNat*256 ^ a:=(by rw [ofN,l];rfl);have t:=aDz b c a;obtain ⟨z,x⟩:=hqq2 u t;generalize ofN b c a=acc at*
    have H:j.toNat < 256:=j.toNat_lt;clear l u t;go_wp2;refine ⟨⟨a+1,by omega,by go_num,cG ?_⟩,by simp [intOf];omega⟩;rw [z.out];exact aAs acc j.toNat a x.out H F
  · have C:a=4:=oM;subst C;go_wp2;go_ret2;exact ⟨sH rfl g.out,rfl⟩
theorem aD4 (c:Option Addr) (a g:Nat) (e:List UInt8) (d:Int) (f:Nat) (b:World) (k:Nat) (j:Int) (m:ofB e d=(k,j)) (p:Rd b f 1 c a (e.map bv)) (n:a<=maxLen):
 Calls prog 169 #[.slice c a g,.int .i64 d] b fun i l=>i=.returned (.tuple #[.int .u32 (k:Int),.int .i64 j])/\b=l:=
 (aDQ c a g e d f b p n).mono fun i l ⟨o,q⟩=>⟨by rw [o,m];rfl,q⟩
end
section
theorem sF:(prog.info? 3).map (fun a=>(a.zero,a.size,a.bytes))=some (some (.int .i64 0),1,8):=by kernel_rfl
theorem zY (b:List Int) (a:Int×Nat) (c:a∈aO b):a.1∈b:=by
 have e:=(qS b).1 a c;have d:a.1∈cV (aO b):=List.mem_flatMap.2 ⟨a,c,List.mem_replicate.2 ⟨by omega,rfl⟩⟩;rwa [iU] at d
theorem tX {b:List Nat} (c:∀a∈b,a < 257):∀a∈aO (fE b),fQ a.1:=by
 intro a d;obtain ⟨f,e,g⟩:=zAx.1 (zY _ a d);have:=c f e;unfold fQ;omega
theorem jD (a:List Nat):(fE a).length=a.length:=by simp [fE]
theorem xK {a:List Nat} (b:∀c∈a,c < 257):kX (fE a)=some (dV a):=by
 unfold kX;rw [zBv (tX b)];rfl
theorem kE (a:List Nat):(dV a).length<=11+22*a.length:=by
 unfold dV;have d:=mZ (aO (fE a));have c:=gZ (fE a);have e:=cB (aO (fE a)).length;rw [jD] at c;have b:dA (aO (fE a))=aW (aO (fE a)).length++(aO (fE a)).flatMap bK:=by simp [dA]
 rw [b,zAi];omega
def sD (c:List Nat) (b a:Nat):List UInt8:=(List.range a).flatMap fun a=>aW (c.idxOf (a*b))
theorem mF (c:List Nat) (b a:Nat):sD c b (a+1)=sD c b a++aW (c.idxOf (a*b)):=by
 unfold sD;rw [List.range_succ,List.flatMap_append];simp
theorem kT (c:List Nat) (b a:Nat):(sD c b a).length<=11*a:=by
 induction a with
 | zero=>simp [sD]
 | succ a d=>
   rw [mF,zAi];have:=cB (c.idxOf (a*b));omega
theorem nQ (c:List Nat) (a b:Nat):oI c a b=sD c a (b / a+1):=rfl
theorem aCI (c:List Nat) (b a:Nat):a<=(sD c b a).length:=by
 induction a with
 | zero=>simp
 | succ a d=>
   rw [mF,zAi];have:=aB4 (c.idxOf (a*b));omega
theorem aDD {c a b:Nat} (g:1<=a) (f:c<=b / a+1) (d:¬c*a<=b):c=b / a+1:=by
 have e:b / a < c:=(Nat.div_lt_iff_lt_mul oM).2 oM;omega
theorem aDA {c a b:Nat} (e:1<=a) (d:c*a<=b):c+1<=b / a+1:=by
 have:=(Nat.le_div_iff_mul_le oM).2 d;omega
end
section
open Go.RowKit
theorem zT (a:Int) (b:World) (d:fQ a):Calls prog 155 #[.int .i64 a] b fun c e=>c=.returned (.bool true)/\b=e:=by
 obtain ⟨f,g⟩:=d;go_enter func155,ntmps155;go_wp2;go_ret;exact ⟨bF (by simp <;> omega),rfl⟩
theorem aBo (a:Int) (b:World) (d:¬fQ a):Calls prog 155 #[.int .i64 a] b fun c g=>c=.returned (.bool false)/\b=g:=by
 have e:a < 0∨(0<=a/\257<=a):=by unfold fQ at d;omega
 rcases e with f |⟨f,i⟩
 · go_enter func155,ntmps155;go_wp2;go_ret;exact ⟨bF (by simp <;> omega),rfl⟩
 · go_enter func155,ntmps155;go_wp2;go_ret;exact ⟨bF (by simp <;> omega),rfl⟩
def aDe (f g:World) (e:Option (List UInt8)) (d:Ending):Prop:=
 (∃a b c,e=some a/\d=.returned (.tuple #[.slice b a.length c,.int .i64 0])/\Made g f.heap.size 5 1 b a.length c (a.map bv))∨
 (e=none/\d=.returned (.tuple #[.slice none 0 0,.int .i64 1]))
theorem yM (N:Option Addr) (y au O:Nat) (k:List Int) (e:World) (I:Rd e O 1 N y (k.map iv)) (aC:O<=e.heap.size) (bd:y<=1000000):
 Calls prog 165 #[.slice N y au] e fun o ab=>aDe e ab (kX k) o/\Below e.heap.size e ab:=by
 obtain ⟨b2,aI,aY,b0,b1⟩:=info_parts gG;have aM:k.length=y:=by simpa using I.1
 obtain ⟨b,s⟩:=eqx (aO k);obtain ⟨c,a2⟩:=eqx b.length;have be:c<=1000000:=by have:=gZ k;rw [s] at this;omega
 have T:∀d∈b,d.2<=1000000:=fun d f=>by have:=jX k d (by rw [s];exact f);omega
 have ag:=lhd T;have a5:kX k=if ∀d∈b,fQ d.1 then some (dA b) else none:=by unfold kX;rw [s]
 obtain ⟨P,ar,n,ap⟩:=hqq4 a5 s a2 I;have b7:=Below.refl e.heap.size e;clear I aM s a2 a5 T;go_enter func165,ntmps165;go_wp2_with fail;refine (aCq _ _ _ _ k _ b c ar.out n.out ap.out aC oM).mono ?_;rintro o w1 ⟨z,B,rfl,X,E⟩;have aS:=E.size;have an:=lhd X.own;clear X;obtain ⟨k0,G⟩:=eqx ((aW c).length);have bb:k0<=11:=by rw [<-G];exact cB c
 have aj:=lhd G;clear G;go_wp2_with fail;refine (pN _ _ _ _ [c] _ (aW c) k0 (kG c) aj.out (Rd.made _ _ 1 1 _ rfl) nL (by simp;omega) oM).mono ?_;rintro o L ⟨ae,aw,rfl,Y,u⟩;have R:=(E.alloc aS _).trans (u.mono (by simp;omega));have bh:=R.size;have bg:w1.heap.size < L.heap.size:=by have:=u.size;simp at this;omega
 have aN:L.ownsRow e.heap.size 5 1 (.slice ae k0 aw) k0 ((aW c).map bv):=aZ Y.own (by simp;omega);have j:L.ownsRow e.heap.size 260 2 (.slice z c B) c (aX b):=aH (an.out.alloc _) u;clear Y u E;go_wp2_with fail;go_loopw [5,17] (fun b4 K wr=>∃a l:Nat,a<=c/\K=.int .i64 a/\wr.ownsRow e.heap.size 5 1 b4 l ((aW c++(b.take a).flatMap bK).map bv)/\wr.ownsRow e.heap.size 260 2 (.slice z c B) c (aX b)/\Below e.heap.size e wr/\∀d∈b.take a,fQ d.1) (fun _ K _=>c -(intOf K).toNat)
 case atStart=>exact ⟨0,k0,zAp _,rfl,by simpa using aN,j,R,by simp⟩
 case round=>
  obtain ⟨a,l,ba,rfl,r,j,t,a4⟩:=hrel;have A:=lhd a4;have a8:=t.size;have bf:l<=22000011:=by have D:=r.1;have Q:=mZ (b.take a);have aA:=cB c;rw [zAj] at Q;simp only [zBb,zAi] at D;omega
  clear a4;by_cases W:a < c
  · obtain ⟨d,f⟩:∃d,b[a]?=some d:=⟨b[a]'(by have:=n.out;omega),zAa (by have:=n.out;omega)⟩;obtain ⟨i,aB,b9⟩:∃i,z=some ⟨i,0,none⟩/\i < wr.heap.size:=(by obtain ⟨i,b6,aT,_,W⟩:=j.form oM;injection aT with D Q aA;exact ⟨i,D,W⟩);subst aB;have ay:wr.cell? ⟨i,a*2,none⟩=some (.int .i64 d.1):=(j.cellAt (a*2) oM).trans ((fH b a 0 d f oM).trans rfl);have az:wr.cell? ⟨i,a*2+1,none⟩=some (.int .i64 (d.2:Int)):=(j.cellAt (a*2+1) oM).trans ((fH b a 1 d f oM).trans rfl);have a3:=pZ b a d f;have aU:=ag.out d (zAd f);have V:∀g∈b.take (a+1),g∈b.take a∨g=d:=(by intro g aa;have aJ:a < b.length:=(zAc.1 f).1;rw [List.take_succ_eq_append_getElem aJ,(zAc.1 f).2] at aa;simpa using aa);have a1:=zAd f;obtain ⟨b3,g⟩:=d;simp only at ay az aU;obtain ⟨am,ai,al⟩:=hqq3 a3 V a1;clear a3 f V a1;by_cases p:fQ b3
    · obtain ⟨m,rfl⟩:=Int.eq_ofNat_of_zero_le p.1;have bi:(m:Int) < 257:=p.2;have q:=lhd p;clear p;obtain ⟨x,H⟩:=eqx ((bK ((m:Int),g)).length);have bc:x<=22:=(by rw [<-H];exact mX _);have ak:=lhd H;have U:cH [m,g]=bK ((m:Int),g):=(by simp [cH,bK]);have ah:=lhd U;clear H U;go_wp2_with (go_at_call 155;refine (zT _ _ q.out).mono ?_;rintro o b5 ⟨rfl,rfl⟩);refine (pN _ _ _ _ [m,g] _ (bK ((m:Int),g)) x ah.out ak.out (Rd.made' _ _ 1 2 _ _ rfl (by simp)) nL (by simp;omega) oM).mono ?_;rintro o M ⟨af,ax,rfl,a0,v⟩;have S:=((t.alloc a8 _).alloc (by simp;omega) _).trans (v.mono (by simp;omega));have a7:=S.size;have w:M.ownsRow e.heap.size 5 1 u5 l ((aW c++(b.take a).flatMap bK).map bv):=aH ((r.alloc _).alloc _) v;have J:M.ownsRow e.heap.size 260 2 (.slice (some ⟨i,0,none⟩) c B) c (aX b):=aH ((j.alloc _).alloc _) v;have aq:=lhd a0.rd;have ao:=lhd (eP (bK ((m:Int),g)));clear a0 v r j;go_wp2_with (at_builtin;refine aP _ rfl (.tmp 25) (.tmp 33) _ rfl e.heap.size 5 b2 (.int .u8 0) 1 1 underlying22 aI aY b0 b1 rfl dC u5 l _ rfl w M.heap.size af x ax _ rfl aq.out ao.out (by unfold maxLen;omega) oM a7 ?_;intro bj bk aQ F aG);have aD:=aL S w F a7;have aR:=J.kept F (wW J w dC);clear F aG J w;go_roundw
      case rel=>refine ⟨a+1,l+x,by omega,by go_num,?_,aR,aD,?_⟩;rw [am.out,<-zCj,zAy];exact aQ;intro ac aV;rcases ai.out ac aV with C | C;exact A.out ac C;rw [C];exact q.out
      case measure=>simp [intOf];omega
    · have q:=lhd p;clear p;go_wp2_with (go_at_call 155;refine (aBo _ _ q.out).mono ?_;rintro o b5 ⟨rfl,rfl⟩);go_ret2;refine ⟨.inr ⟨?_,rfl⟩,t.alloc a8 _⟩;rw [P.out,zBu];intro aE;exact q.out (aE _ al.out)
  · have aK:a=c:=oM;have b8:c<=a:=oM;have a9:b.take a=b:=zAg (by have:=n.out;omega);rw [a9] at r A;clear aK a9 j;obtain ⟨ad,av,rfl,Z⟩:=aF r;go_wp2;go_ret2;have a6:(dA b).length=l:=(by have:=Z.len;rw [zBb] at this;rw [<-this,dA,n.out]);refine ⟨.inl ⟨dA b,ad,av,?_,?_,?_⟩,t⟩
    · rw [P.out,zBv A.out]
    rw [a6];rfl;rw [a6,dA,n.out];exact Z
def tJ (e f:World) (a:List Int×Int) (d:Ending):Prop:=
 ∃b c,d=.returned (.tuple #[.slice b a.1.length c,.int .i64 a.2])/\Made f e.heap.size 3 1 b a.1.length c (a.1.map iv)
theorem eC {d e:World} {b:List Int×Int} {a:Int} (c:([],a)=b):tJ d e b (.returned (.tuple #[.slice none 0 0,.int .i64 a])):=by
 subst c;exact ⟨none,0,rfl,⟨World.ownsRow_nil _ _ _ _,Rd.nil _ _ _ _,zAs _,zAp _⟩⟩
theorem nJ (a0:Option Addr) (s S:Nat) (e:List UInt8) (Q:Int) (k:World) (E:TypeInfo) (az:prog.info? 3=some E) (aE:E.zero=some (.int .i64 0)) (aG:E.size=1) (aH:E.bytes=8)
 (B:Hid (e.length=s)) (a4:Hid (Rd k k.heap.size 1 a0 s (e.map bv))) (ap:Below k.heap.size k k) (j:s<=S) (i:S<=maxLen) (t:List Int×Int) (R F:Nat) (ar:F<=s)
 (aj:Hid (cT e 0=(R,(F:Int),0))) (am:Hid (R < 18446744073709551616)) (f:Nat) (ak:Hid (rgo e f R F 257 []=t)) (aV:f<=1099511627776) (a8:Q=(f:Int)∨(Q < 0/\f<=0)):
 Calls prog 172 #[.slice a0 s S,.int .i64 Q] k fun a ah=>tJ k ah t a/\Below k.heap.size k ah:=by
 have a2:=lhd a8;clear a8;go_enter func172,ntmps172;go_wp2_with (go_at_call 246;refine (dD _ _ _ _ _ _ _ _ _ _ aj.out a4.out j i).mono ?_;rintro a n ⟨rfl,rfl⟩);go_loopw [6,7,9,10] (fun Z aJ Y aK wr=>∃(q o r:Nat) (m:List Int),Z=.int .u64 (q:Int)/\aJ=.int .i64 (o:Int)/\aK=.int .u64 (r:Int)/\wr.ownsRow k.heap.size 3 1 Y m.length (m.map iv)/\m.length<=f/\o<=s/\q < 18446744073709551616/\rgo e f q o r m=t/\Below k.heap.size k wr) (fun Z _ _ _ _=>(intOf Z).toNat)
 case atStart=>exact ⟨R,F,257, [],rfl,rfl,rfl,World.ownsRow_nil _ _ _ _,zAp _,ar,am.out,ak.out,ap⟩
 case round=>
  obtain ⟨q,o,r,m,rfl,rfl,rfl,C,au,aq,ac,a9,p⟩:=hrel;obtain ⟨x,al⟩:=hqq2 a9 ac;have aX:=p.size;have ad:=a4.out.below p;have l:=lhd ad;clear a9 ac ad;rcases q with _ | q
  · have aR:((0:Nat):Int)=0:=rfl;by_cases K:o=s
    · have c:(m,0)=t:=(by rw [<-x.out,rgo,zBv (by rw [B.out];exact K)]);have g:=lhd c;have W:((o:Int)==(s:Int))=true:=(by rw [zCl];omega);obtain ⟨a1,a7,rfl,V⟩:=aF C;clear K c C;go_wp2;go_ret2;refine ⟨?_,p⟩;rw [<-g.out];exact ⟨a1,a7,rfl,V⟩
    · have c:([],4)=t:=(by rw [<-x.out,rgo,zBu (by rw [B.out];exact K)]);have g:=lhd c;have W:((o:Int)==(s:Int))=false:=(by rw [zBz];omega);clear K c;go_wp2;go_ret2;exact ⟨eC g.out,p⟩
  · have D:o<=e.length:=(by rw [B.out];exact aq);rcases h1:cU (e.drop o) true 0 o with _ |⟨b,A⟩
    · have c:([],4)=t:=(by rw [<-x.out,uK _ _ _ _ _ _ (uF _ _ h1)]);obtain ⟨g,v⟩:=hqq2 c (kC e o D h1);clear c D h1;go_wp2_with (go_at_call 246;refine (dD _ _ _ _ _ _ _ _ _ _ v.out l.out j i).mono ?_;rintro a n ⟨rfl,rfl⟩);go_ret2;exact ⟨eC g.out,p⟩
    · have M:=oV _ _ _ _ _ _ h1;have y:=kB e o b A D h1;have aD:A<=s:=(by rw [zAv,B.out] at M;omega);have P:A<=e.length:=(by rw [B.out];exact aD);obtain ⟨v,aN⟩:=hqq2 y M.2.2;rcases h2:cU (e.drop A) true 0 A with _ |⟨d,a⟩
      · have c:([],4)=t:=(by rw [<-x.out,uK _ _ _ _ _ _ (uE _ _ _ _ h1 h2)]);obtain ⟨g,w⟩:=hqq2 c (kC e A P h2);clear c D h1 h2 y M P;go_wp2_with fail;refine (dD _ _ _ _ _ _ _ _ _ _ v.out l.out j i).mono ?_;rintro a n ⟨rfl,rfl⟩;go_wp2_with fail;refine (dD _ _ _ _ _ _ _ _ _ _ w.out l.out j i).mono ?_;rintro a n ⟨rfl,rfl⟩;go_wp2;go_ret2;exact ⟨eC g.out,p⟩
      · have U:=oV _ _ _ _ _ _ h2;have H:=kB e A d a P h2;have ax:a<=s:=(by rw [zAv,B.out] at U;omega);have w:=lhd H;have ae:rgo e f (q+1) o r m=if 257<=b∨b=r∨d=0 then ([],4) else if f - m.length < d then ([],3) else rgo e f q a b (m++List.replicate d (b:Int)):=uJ _ _ _ _ _ _ _ _ _ (oL _ _ _ _ _ _ h1 h2);obtain ⟨a5,aM⟩:=hqq2 ae U.2.2;clear D h1 h2 y M P H U ae;by_cases I:257<=b∨b=r∨d=0
        · have c:([],4)=t:=(by rw [<-x.out,a5.out,zBv I]);have g:=lhd c;have aw:257<=b∨(b < 257/\b=r)∨(b < 257/\b≠r/\d=0):=oM;clear c I;rcases aw with G |⟨G,T⟩|⟨G,T,ao⟩
          · go_wp2_with fail;refine (dD _ _ _ _ _ _ _ _ _ _ v.out l.out j i).mono ?_;rintro a n ⟨rfl,rfl⟩;go_wp2_with fail;refine (dD _ _ _ _ _ _ _ _ _ _ w.out l.out j i).mono ?_;rintro a n ⟨rfl,rfl⟩;go_wp2;go_ret2;exact ⟨eC g.out,p⟩
          · subst T;go_wp2_with fail;refine (dD _ _ _ _ _ _ _ _ _ _ v.out l.out j i).mono ?_;rintro a n ⟨rfl,rfl⟩;go_wp2_with fail;refine (dD _ _ _ _ _ _ _ _ _ _ w.out l.out j i).mono ?_;rintro a n ⟨rfl,rfl⟩;go_wp2;go_ret2;exact ⟨eC g.out,p⟩
          · subst ao;have W:((b:Int)==(r:Int))=false:=(by rw [zBz];omega);clear T;go_wp2_with fail;refine (dD _ _ _ _ _ _ _ _ _ _ v.out l.out j i).mono ?_;rintro a n ⟨rfl,rfl⟩;go_wp2_with fail;refine (dD _ _ _ _ _ _ _ _ _ _ w.out l.out j i).mono ?_;rintro a n ⟨rfl,rfl⟩;go_wp2;go_ret2;exact ⟨eC g.out,p⟩
        · have aO:b < 257:=oM;have aU:0 < d:=oM;have aZ:((d:Int)==0)=false:=(by rw [zBz];omega);have b0:decide ((257:Int)<=(b:Int))=false:=(by simp;omega);have W:((b:Int)==(r:Int))=false:=(by rw [zBz];omega);obtain ⟨z,O⟩:=eqx m.length;have af:rgo e f (q+1) o r m=if f - z < d then ([],3) else rgo e f q a b (m++List.replicate d (b:Int)):=(by rw [a5.out,zBu I,O]);obtain ⟨a6,a3⟩:=hqq2 af O;rw [O] at C au;obtain ⟨a1,a7,rfl,V⟩:=aF C;have an:=lhd C;have aB:=al.out;have aA:∃aI:Int,aI=(f:Int) -(z:Int):=⟨_,rfl⟩;clear I af O V C aA;by_cases L:f - z < d
          · have c:([],3)=t:=(by rw [<-x.out,a6.out,zBv L]);have g:=lhd c;have ay:(f:Int) -(z:Int) < (d:Int):=oM;clear c L aB;rcases a2.out with J |⟨J,aP⟩
            · subst J;go_wp2_with fail;refine (dD _ _ _ _ _ _ _ _ _ _ v.out l.out j i).mono ?_;rintro a n ⟨rfl,rfl⟩;go_wp2_with fail;refine (dD _ _ _ _ _ _ _ _ _ _ w.out l.out j i).mono ?_;rintro a n ⟨rfl,rfl⟩;go_wp2;go_ret2;exact ⟨eC g.out,p⟩
            · go_wp2_with fail;refine (dD _ _ _ _ _ _ _ _ _ _ v.out l.out j i).mono ?_;rintro a n ⟨rfl,rfl⟩;go_wp2_with fail;refine (dD _ _ _ _ _ _ _ _ _ _ w.out l.out j i).mono ?_;rintro a n ⟨rfl,rfl⟩;go_wp2;go_ret2;exact ⟨eC g.out,p⟩
          · have c:rgo e f q a b (m++List.replicate d (b:Int))=t:=(by rw [<-x.out,a6.out,zBu L]);have g:=lhd c;have ay:(d:Int)<=(f:Int) -(z:Int):=oM;have J:Q=(f:Int):=(by rcases a2.out with G |⟨_,G⟩<;> omega);subst J;clear c L;go_wp2_with fail;refine (dD _ _ _ _ _ _ _ _ _ _ v.out l.out j i).mono ?_;rintro a n ⟨rfl,rfl⟩;go_wp2_with fail;refine (dD _ _ _ _ _ _ _ _ _ _ w.out l.out j i).mono ?_;rintro a n ⟨rfl,rfl⟩;go_wp2;go_loopw [9,73] (fun Y X ai=>∃u:Nat,u<=d/\X=.int .u64 (u:Int)/\ai.ownsRow k.heap.size 3 1 Y (z+u) ((m++List.replicate u (b:Int)).map iv)/\Below k.heap.size k ai) (fun _ X _=>d -(intOf X).toNat)
            case atStart=>exact ⟨0,zAp _,rfl,by simpa using an.out,p⟩
            case round=>
             obtain ⟨u,aS,rfl,N,y⟩:=hrel;have ag:=y.size;by_cases aT:u < d
             · go_wp2_with (at_builtin;refine aY _ rfl (.tmp 75) (.tmp 78) _ rfl k.heap.size 3 E (.int .i64 0) 1 8 underlying39 az aE aG aH rfl dC u9 (z+u) _ rfl N rfl rfl (by simp [Value.oneCell']) (by unfold maxLen;omega) oM ag ?_;intro b1 b2 aC aa aW av);have H:=aL y N aa ag;clear aa av;go_roundw
               case rel=>refine ⟨u+1,by omega,by go_num,?_,H⟩;rw [List.replicate_succ',<-zCj,zAy];exact aC
               case measure=>simp [intOf];omega
             · have ab:u=d:=oM;have aQ:d<=u:=oM;rw [ab] at N;clear ab;go_wp2;refine ⟨⟨q,a,b,m++List.replicate d (b:Int),cG oM,rfl,rfl,?_,?_,ax,by omega,g.out,y⟩,by simp [intOf]⟩;rw [zAi,zCi,a3.out];exact N;rw [zAi,zCi,a3.out];omega
theorem yN (n:Option Addr) (e i x:Nat) (a:List UInt8) (b:Int) (c:World) (q:Rd c x 1 n e (a.map bv)) (L:x<=c.heap.size) (w:e<=i) (u:i<=maxLen) (N:b<=1099511627776) (O:-9223372036854775808<=b):
 Calls prog 172 #[.slice n e i,.int .i64 b] c fun A K=>tJ c K (iD a b) A/\Below c.heap.size c K:=by
 obtain ⟨J,C,G,H,I⟩:=info_parts sF;have v:a.length=e:=by simpa using q.1
 obtain ⟨y,r⟩:=hqq2 v (q.mono L);have s:=Below.refl c.heap.size c;obtain ⟨p,l⟩:=eqx (iD a b);rw [l];rcases hfirst:cU a true 0 0 with _ |⟨m,f⟩
 · have j:cT a 0=(0,0,4):=kC a 0 (zAp _) (by simpa using hfirst);have k:([],4)=p:=(by rw [<-l,iD,hfirst]);obtain ⟨o,g⟩:=hqq2 j k;clear q v l j k hfirst;go_enter func172,ntmps172;go_wp2_with (go_at_call 246;refine (dD _ _ _ _ _ _ _ _ _ _ o.out r.out w u).mono ?_;rintro A R ⟨rfl,rfl⟩)
   go_loop [6] (fun Q=>Q=.int .u64 0) (fun _=>0)
   case atStart=>rfl
   case round=>subst hrel;go_wp2;go_ret2;exact ⟨eC g.out,s⟩
 have D:=oV _ _ _ _ _ _ hfirst;have j:cT a 0=(m,(f:Int),0):=kB a 0 m f (zAp _) (by simpa using hfirst);have k:rgo a b.toNat m f 257 []=p:=(by rw [<-l,iD,hfirst]);have B:f<=e:=oM;obtain ⟨o,g,z⟩:=hqq3 j k D.2.2;obtain ⟨d,F⟩:∃d:Nat,b.toNat=d:=⟨_,rfl⟩;rw [F] at g;have E:d<=1099511627776:=oM;have t:b=(d:Int)∨(b < 0/\d<=0):=oM;clear q v l j k hfirst D F N O;rcases t with t |⟨P,M⟩;subst t;exact nJ n e i a (d:Int) c J C G H I y r s w u p m f B o z d g E (.inl rfl);exact nJ n e i a b c J C G H I y r s w u p m f B o z d g E (.inr ⟨P,M⟩)
theorem aA3 (g:Option Addr) (f d i:Nat) (j:List UInt8) (b:Int) (a:World) (k:List Int) (l:Nat) (q:Int) (r:iD j b=(k,q)) (y:k.length=l) (z:Rd a i 1 g f (j.map bv)) (s:i<=a.heap.size) (v:f<=d) (u:d<=maxLen) (w:b<=1099511627776) (x:-9223372036854775808<=b):
 Calls prog 172 #[.slice g f d,.int .i64 b] a fun n m=>∃c e,n=.returned (.tuple #[.slice c l e,.int .i64 q])/\Made m a.heap.size 3 1 c l e (k.map iv)/\Below a.heap.size a m:=by
 subst y;refine (yN g f d i j b a z s v u w x).mono fun n m ⟨⟨c,e,o,p⟩,t⟩=>?_;rw [r] at o p;exact ⟨c,e,o,p,t⟩
end
section
open Go.ChangeShapes Go.WideShapes Go.ChangeAt Go.RowKit Go.Deep
structure Stp where
 kind:Int
 p:Int
 k:Int
 A:Option Addr
 n:Nat
 c:Nat
 D:List UInt8
def dI (a:Stp):List Value:= [iv a.kind,iv a.p,iv a.k,.slice a.A a.n a.c]
def aR (a:List Stp):List Value:=a.flatMap dI
theorem kO (a:List Stp):(aR a).length=a.length*4:=by
 induction a with
 | nil=>rfl
 | cons c a b=>
   simp only [aR,List.flatMap_cons] at b⊢;rw [zAi,b,zCd];simp only [dI,zCd,List.length_nil];omega
theorem dH (b:List Stp) (a d:Nat) (g:Stp) (c:b[a]?=some g) (k:d < 4):(aR b)[a*4+d]?=(dI g)[d]?:=by
 induction b generalizing a with
 | nil=>simp at c
 | cons e b j=>
   have f:aR (e::b)=dI e++aR b:=(by simp [aR]);have i:(dI e).length=4:=rfl;rcases a with _ | a
   · simp at c;subst c;rw [f,Nat.zero_mul,zBh,zAn oM]
   simp only [List.getElem?_cons_succ] at c;rw [f,zAo oM,i,show (a+1)*4+d - 4=a*4+d by omega];exact j a c
def aBU (a:Int):Prop:=-9223372036854775808<=a/\a<=9223372036854775807
def Stp.good (b:World) (a:Stp):Prop:=aBU a.kind/\aBU a.p/\aBU a.k/\Rd b b.heap.size 1 a.A a.n (a.D.map bv)/\a.n<=a.c/\a.c<=maxLen
theorem wK {A:Type} {H:TypeId×Value->A} {E:World} {I:Nat} {m:List Value} {F:DataW A×List MemPlace}
 (N:DataW.trod H prog E 0 (fun _=>true) true I 44 m=some F):∃D:Stp,m=dI D/\D.good E:=by
 have J:prog.cellsOf 44=4:=by kernel_rfl
 obtain ⟨c,L,e,g,⟨aa,u,S⟩,⟨ab,v,T⟩,⟨ac,w,U⟩,⟨ad,x,V⟩⟩:∃c:Array Field,prog.underlying 44=some (.struct c)/\oneCellFields prog c=true/\c.size=4/\(∃a,c[0]?=some a/\a.type=3)/\(∃a,c[1]?=some a/\a.type=3)/\(∃a,c[2]?=some a/\a.type=3)/\(∃a,c[3]?=some a/\a.type=22):=
  ⟨_,underlying44,rfl,rfl,⟨_,rfl,rfl⟩,⟨_,rfl,rfl⟩,⟨_,rfl,rfl⟩,⟨_,rfl,rfl⟩⟩
 obtain ⟨b,O,a7,a8,B,i,k⟩:=DataW.trod_struct L N;rw [J] at B
 match m,B with
 | [ae,af,ag,W],_=>
   have Y:b[0]?=some (b[0]'(by rw [i,g];decide)):=zAa _;have Z:b[1]?=some (b[1]'(by rw [i,g];decide)):=zAa _;have a0:b[2]?=some (b[2]'(by rw [i,g];decide)):=zAa _;have a1:b[3]?=some (b[3]'(by rw [i,g];decide)):=zAa _;have r:=k 0 _ u;rw [(hone_of e _ _ u).1,(hone_of e _ _ u).2,S,Y] at r;simp only [List.drop_zero,List.drop_succ_cons,List.take_succ_cons,List.take_zero] at r;have s:=k 1 _ v;rw [(hone_of e _ _ v).1,(hone_of e _ _ v).2,T,Z] at s;simp only [List.drop_zero,List.drop_succ_cons,List.take_succ_cons,List.take_zero] at s;have t:=k 2 _ w;rw [(hone_of e _ _ w).1,(hone_of e _ _ w).2,U,a0] at t;simp only [List.drop_zero,List.drop_succ_cons,List.take_succ_cons,List.take_zero] at t;have j:=k 3 _ x;rw [(hone_of e _ _ x).1,(hone_of e _ _ x).2,V,a1] at j;simp only [List.drop_zero,List.drop_succ_cons,List.take_succ_cons,List.take_zero] at j;obtain ⟨a2,n,_,w0⟩:=DataW.trod_int underlying3 r;obtain ⟨a3,o,_,w1⟩:=DataW.trod_int underlying3 s;obtain ⟨a4,q,_,X⟩:=DataW.trod_int underlying3 t;injection n with n;injection o with o;injection q with q;subst n;subst o;subst q;have M:∃(l:Option Addr) (z y:Nat),W=.slice l z y:=(by rcases open_slice underlying22 j with ⟨f,_⟩|⟨ah,a9,a6,_,_,_,_,f,_⟩;injection f with f;exact ⟨_,_,_,f⟩;injection f with f;exact ⟨_,_,_,f⟩);obtain ⟨l,z,y,rfl⟩:=M;obtain ⟨a5,C,P,Q,R⟩:=aCk (d:=(b[3]'(by rw [i,g];decide)).1) (p:=(b[3]'(by rw [i,g];decide)).2) underlying22 underlying5 kR ⟨O,by simpa [Value.cells] using j⟩;obtain ⟨G,K⟩:=aCh a5 P;rw [K] at C;exact ⟨⟨a2,a3,a4,l,z,y,G⟩,rfl,bounds_i64 w0,bounds_i64 w1,bounds_i64 X,C,Q,R⟩
theorem aAM {p:Type} {E:TypeId×Value->p} {c:World} {q:Option Addr} {b n:Nat} {D:DataW p} {T:List MemPlace}
 (F:DataW.Trod E prog c 0 (fun _=>true) true 31 (.slice q b n) D T):
 ∃l:List Stp,Rd c c.heap.size 4 q b (aR l)/\l.length=b/\(∀f∈l,f.good c)/\b<=n/\n<=maxLen:=by
 obtain ⟨a0,J⟩:=F;rcases open_slice underlying31 J with ⟨j,_⟩|⟨m,l,Y,a3,a4,W,X,j,_,N,O,z,_,K⟩;simp [Value.cells] at j;obtain ⟨rfl,rfl,rfl⟩:=j;exact ⟨[],Rd.nil _ _ _ _,rfl,by simp,zAs _,zAp _⟩;simp [Value.cells] at j;obtain ⟨rfl,rfl,rfl⟩:=j;simp at z;subst z;have G:prog.cellsOf 44=4:=(by kernel_rfl);have B:∀d,d < b->∃f:Stp,(∀a,a < 4->c.cell? (m.add (d*4+a))=(dI f)[a]?)/\f.good c:=(by intro d a2;obtain ⟨Z,w,R⟩:=K d oM;rw [G] at w;obtain ⟨f,rfl,k⟩:=wK R;obtain ⟨_,a1,H⟩:=World.cells?_some w;refine ⟨f,fun a L=>?_,k⟩;have:=H a L;rw [Go.Deep.add_add] at this;exact this);have U:∃e:Nat->Stp,∀d,d < b->(∀a,a < 4->c.cell? (m.add (d*4+a))=(dI (e d))[a]?)/\(e d).good c:=(by refine ⟨fun i=>if g:i < b then Classical.choose (B i g) else ⟨0,0,0,none,0,0, []⟩,fun i g=>?_⟩;simp only [g,dif_pos];exact Classical.choose_spec (B i g));obtain ⟨e,k⟩:=U;refine ⟨(List.range b).map e,⟨by rw [kO];simp,fun P=>?_⟩,by simp,?_,N,O⟩;have x:=(k 0 P).1 0 oM;simp only [Nat.zero_mul,zBh] at x;have y:c.cell? (m.add 0)=some (iv (e 0).kind):=x.trans rfl;obtain ⟨C,S,V⟩:=m;have Q:V=none:=(by simpa [Addr.add] using World.cell?_spot y);subst Q;have I:=World.block_lt_of_cell? c _ y;refine ⟨C,S,rfl,by simpa [Addr.add] using I,fun a a5 A=>?_⟩;have M:a < b*4:=(by have:=(zAc.1 A).1;rw [kO] at this;simpa using this);have r:a / 4 < b:=Nat.div_lt_of_lt_mul (by rw [Nat.mul_comm];exact M);have s:a % 4 < 4:=Nat.mod_lt _ oM;have t:a / 4*4+a % 4=a:=Nat.div_add_mod' a 4;have o:((List.range b).map e)[a / 4]?=some (e (a / 4)):=(by rw [zAf,zCg r];rfl);have u:=dH _ (a / 4) (a % 4) _ o s;rw [t,A] at u;have v:=(k (a / 4) r).1 (a % 4) s;rw [t,<-u,eI] at v;exact v;intro f o;obtain ⟨i,g,rfl⟩:=zAx.1 o;exact (k i (zCf.1 g)).2
end
end Go.Proofs.YtihaijbgmjdhgaaGreatDoor
