/- Lemmas of the walk. Conditions: each its own. -/
import Derived.Test.YtnmapianpjamnaaGreatDoorPk0
import Derived.Test.YtnmapianpjamnaaGreatDoorProg
set_option linter.all false
set_option maxRecDepth 100000
set_option maxHeartbeats 2000000
namespace Go.Proofs.YtnmapianpjamnaaGreatDoor
open Tryz
section
inductive Tr where
 | lf (b:List Bool)
 | nd (l r:Tr)
namespace Tr
def bits:Tr->List Bool
 | lf a=>a
 | nd b c=>b.bits++c.bits
def ht:Tr->Nat
 | lf _=>0
 | nd a b=>max a.ht b.ht+1
def lv:Tr->Nat
 | lf _=>1
 | nd a b=>a.lv+b.lv
def Avl:Tr->Prop
 | lf _=>True
 | nd a b=>a.Avl/\b.Avl/\a.ht<=b.ht+1/\b.ht<=a.ht+1
def Full:Tr->Prop
 | lf a=>32<=a.length/\a.length<=128
 | nd b c=>b.Full/\c.Full
def Ok:Tr->Prop
 | lf a=>1<=a.length/\a.length<=128
 | nd b c=>(nd b c).Avl/\(nd b c).Full
def Near (b:Tr):Prop:=b.Full∨∃a,b=lf a/\a.length=31
def lv_pos:∀b:Tr,1<=b.lv
 | lf _=>zAs _
 | nd a c=>by have:=lv_pos a;simp only [lv];omega
end Tr
namespace Tr
def cut (a:List Bool) (b c d:Nat):List Bool:=(a.take (a.length*d / b)).drop (a.length*c / b)
def bld (a:List Bool) (b:Nat):Nat->Nat->Nat->Tr
 | 0,f,t=>lf (cut a b f t)
 | u+1,f,t=>if t - f=1 then lf (cut a b f t) else nd (bld a b u f ((f+t)/ 2)) (bld a b u ((f+t)/ 2) t)
def cut_len {bs:List Bool} {a f b:Nat} (c:0 < a) (ht:b<=a):(cut bs a f b).length=bs.length*b / a - bs.length*f / a:=by
 unfold cut;rw [zAw,zAj,zCp];exact Nat.div_le_of_le_mul (by rw [Nat.mul_comm];exact Nat.mul_le_mul_right _ ht)
def aCo {a:List Bool} {b d c e:Nat} (j:d<=c) (k:c<=e):cut a b d c++cut a b c e=cut a b d e:=by
 unfold cut;have l:a.length*d / b<=a.length*c / b:=Nat.div_le_div_right (Nat.mul_le_mul_left _ j);have f:a.length*c / b<=a.length*e / b:=Nat.div_le_div_right (Nat.mul_le_mul_left _ k);generalize a.length*d / b=x at*
 generalize a.length*c / b=y at*
 generalize a.length*e / b=z at*
 have g:a.take y=(a.take z).take y:=by rw [List.take_take,zCp f]
 rw [g,List.drop_take];have i:(a.take z).drop y=((a.take z).drop x).drop (y - x):=by rw [List.drop_drop];congr 1;omega
 rw [i,zAu]
def bld_bits (d:List Bool) (e:Nat):∀c a b,a < b->b - a<=c+1->(bld d e c a b).bits=cut d e a b
 | 0,a,b,_,_=>rfl
 | c+1,a,b,h,hu=>by
   unfold bld;split;rfl
   · show (bld d e c a ((a+b)/ 2)).bits++(bld d e c ((a+b)/ 2) b).bits=_;rw [bld_bits d e c _ _ oM oM,bld_bits d e c _ _ oM oM,aCo oM oM]
def Hn:Nat->Nat->Nat
 | 0,_=>0
 | u+1,d=>if d=1 then 0 else max (Hn u (d / 2)) (Hn u (d - d / 2))+1
def mE (d:List Bool) (e:Nat):∀c a b,a < b->(bld d e c a b).ht=Hn c (b - a)
 | 0,a,b,_=>rfl
 | c+1,a,b,h=>by
   unfold bld Hn;split;rfl
   · show max (bld d e c a ((a+b)/ 2)).ht (bld d e c ((a+b)/ 2) b).ht+1=_;rw [mE d e c _ _ oM,mE d e c _ _ oM];have f:(a+b)/ 2 - a=(b - a)/ 2:=oM;have g:b -(a+b)/ 2=b - a -(b - a)/ 2:=oM;rw [f,g]
def aCA:∀b:Fin 10,∀a:Fin 12,2<=a.val->a.val<=b.val+2->Hn b.val (a.val / 2)<=Hn b.val (a.val - a.val / 2)+1/\Hn b.val (a.val - a.val / 2)<=Hn b.val (a.val / 2)+1:=dC
def leaf_len {b a f:Nat} (e:0 < a) (i:b<=128*a):b*(f+1)/ a - b*f / a<=128:=by
 have d:b*(f+1)<=b*f+128*a:=by rw [Nat.mul_add,zBl];omega
 have g:(b*f+128*a)/ a=b*f / a+128:=Nat.add_mul_div_right _ _ e;have:=Nat.div_le_div_right (c:=a) d;omega
def qE {b a f:Nat} (i:1 < a) (g:128*(a - 1) < b):64<=b*(f+1)/ a - b*f / a:=by
 have d:b*f+64*a<=b*(f+1):=by rw [Nat.mul_add,zBl];omega
 have e:(b*f+64*a)/ a=b*f / a+64:=Nat.add_mul_div_right _ _ oM;have:=Nat.div_le_div_right (c:=a) d;omega
def oN {d:List Bool} {b:Nat} (j:1 < b) (g:d.length<=128*b) (i:128*(b - 1) < d.length):∀e a c,a < c->c - a<=e+1->c<=b->(bld d b e a c).Full
 | 0,a,c,h,hu,ht=>by have k:c=a+1:=oM;subst k;have l:=leaf_len (f:=a) oM g;have m:=qE (f:=a) j i;show 32<=(cut d b a (a+1)).length/\(cut d b a (a+1)).length<=128;rw [cut_len oM ht];omega
 | e+1,a,c,h,hu,ht=>by unfold bld;split;have k:c=a+1:=oM;subst k;have l:=leaf_len (f:=a) oM g;have m:=qE (f:=a) j i;show 32<=(cut d b a (a+1)).length/\(cut d b a (a+1)).length<=128;rw [cut_len oM ht];omega;exact ⟨oN j g i e _ _ oM oM oM,oN j g i e _ _ oM oM ht⟩
def rS {bs:List Bool} {c:Nat}:∀d a b,a < b->b - a<=d+1->d < 11->(bld bs c d a b).Avl
 | 0,a,b,h,hu,ht=>trivial
 | d+1,a,b,h,hu,ht=>by
   unfold bld;split
   · trivial
   have:=aCA ⟨d,by omega⟩ ⟨b - a,by omega⟩ (show 2<=b - a by omega) (show b - a<=d+2 by omega);refine ⟨rS d _ _ oM oM oM,rS d _ _ oM oM oM,?_,?_⟩;rw [mE _ _ _ _ _ oM,mE _ _ _ _ _ oM];have e:(a+b)/ 2 - a=(b - a)/ 2:=oM;have f:b -(a+b)/ 2=b - a -(b - a)/ 2:=oM;rw [e,f];exact this.1;rw [mE _ _ _ _ _ oM,mE _ _ _ _ _ oM];have e:(a+b)/ 2 - a=(b - a)/ 2:=oM;have f:b -(a+b)/ 2=b - a -(b - a)/ 2:=oM;rw [e,f];exact this.2
def bld_lv (d:List Bool) (e:Nat):∀c a b,a < b->b - a<=c+1->(bld d e c a b).lv=b - a
 | 0,a,b,h,hu=>by show 1=b - a;omega
 | c+1,a,b,h,hu=>by unfold bld;split;show 1=b - a;omega;show (bld d e c a ((a+b)/ 2)).lv+(bld d e c ((a+b)/ 2) b).lv=_;rw [bld_lv d e c _ _ oM oM,bld_lv d e c _ _ oM oM];omega
def lvs (a:Nat):Nat:=(a+127)/ 128
def mk (a:List Bool):Tr:=bld a (lvs a.length) (lvs a.length - 1) 0 (lvs a.length)
def yL (b:List Bool) {a:Nat} (c:0 < a):cut b a 0 a=b:=by
 unfold cut;rw [Nat.mul_zero,Nat.zero_div,List.drop_zero,Nat.mul_div_cancel _ c,List.take_length]
def mk_bits {a:List Bool} (b:0 < a.length):(mk a).bits=a:=by
 unfold mk;have:0 < lvs a.length:=by unfold lvs;omega
 rw [bld_bits _ _ _ _ _ this oM,yL _ this]
def mk_ok {a:List Bool} (j:0 < a.length) (p:a.length<=1100):(mk a).Ok:=by
 have f:0 < lvs a.length:=by unfold lvs;omega
 by_cases g:lvs a.length=1;have i:mk a=lf a:=(by unfold mk;rw [g];show lf (cut a 1 0 1)=lf a;rw [yL _ oM]);rw [i];have:(a.length+127)/ 128=1:=g;exact ⟨j,by omega⟩
 · have k:1 < lvs a.length:=oM;have l:a.length<=128*lvs a.length:=(by unfold lvs;omega);have m:128*(lvs a.length - 1) < a.length:=(by unfold lvs;omega);have o:lvs a.length<=9:=(by unfold lvs;omega);have e:=oN k l m (lvs a.length - 1) 0 (lvs a.length) f oM nL;have d:=rS (bs:=a) (c:=lvs a.length) (lvs a.length - 1) 0 (lvs a.length) f oM oM;have b:=bld_lv a (lvs a.length) (lvs a.length - 1) 0 (lvs a.length) f oM;show (bld a (lvs a.length) (lvs a.length - 1) 0 (lvs a.length)).Ok;revert e d b;cases bld a (lvs a.length) (lvs a.length - 1) 0 (lvs a.length) with
   | lf n=>intro _ _ b;exact absurd b (by show ¬1=_;omega)
   | nd b q=>intro e d _;exact ⟨d,e⟩
end Tr
def fF:Nat->Nat->List UInt8
 | 0,_=> []
 | f+1,n=>if n=0 then [] else fF f (n / 128)++ [UInt8.ofNat (n % 128+128)]
def aH (a:Nat):List UInt8:=fF 10 (a / 128)++ [UInt8.ofNat (a % 128)]
def bX (a:List Nat):List UInt8:=a.flatMap aH
def bO:List UInt8->Bool->Nat->Nat->Option (Nat×Nat)
 | [],_,_,_=>none
 | c::r,first,acc,pos=>
   if (first&&c.toNat==128)||decide (144115188075855871 < acc) then none
   else if c.toNat < 128 then some (acc*128+c.toNat % 128,pos+1) else bO r false (acc*128+c.toNat % 128) (pos+1)
def aW (b:List UInt8) (a:Int):Nat×Int×Int:=
 if a < 0∨(b.length:Int) < a then (0,a,2)
 else match bO (b.drop a.toNat) true 0 a.toNat with
    | some (c,d)=>(c,d,0)
    | none=>(0,a,4)
def rI:Nat->Nat->List UInt8
 | 0,_=> []
 | k+1,n=>rI k n++ [UInt8.ofNat (n / 256 ^ k % 256)]
def iG (a:Nat):List UInt8:=rI 4 a
def ofN (b:List UInt8) (a:Nat):Nat->Nat
 | 0=>0
 | k+1=>ofN b a k+(b[a+k]?.getD 0).toNat*256 ^ k
def ofB (b:List UInt8) (a:Int):Nat×Int:=
 if a < 0∨(b.length:Int) < a then (0,2) else if (b.length:Int) - a < 4 then (0,4) else (ofN b a.toNat 4,0)
def aCV (c:List UInt8) (b:Nat) (a:Nat):ofN c b a < 256 ^ a:=by
 induction a with
 | zero=>simp [ofN]
 | succ a e=>
   have:(c[b+a]?.getD 0).toNat < 256:=UInt8.toNat_lt _;simp only [ofN,Nat.pow_succ];have d:(c[b+a]?.getD 0).toNat*256 ^ a<=255*256 ^ a:=Nat.mul_le_mul_right _ oM;omega
def fH (a:UInt8) (d:List UInt8) (first:Bool) (b c:Nat):bO (a::d) first b c=
 if (first&&a.toNat==128)||decide (144115188075855871 < b) then none
 else if a.toNat < 128 then some (b*128+a.toNat % 128,c+1) else bO d false (b*128+a.toNat % 128) (c+1):=by conv=>lhs;rw [bO]
def iZ (a:Nat):fF a 0= []:=by cases a <;> simp [fF]
def zR (b:Nat):∀a,a < 128 ^ b->fF (b+1) a=fF b a:=by
 induction b with
 | zero=>intro a c;have:a=0:=by simpa using c
         subst this;simp [fF]
 | succ b e=>
   intro a c;by_cases d:a=0
   · subst d;simp [iZ]
   · rw [fF,zBv d,e (a / 128) (by rw [Nat.div_lt_iff_lt_mul oM];rw [Nat.pow_succ] at c;exact c)]
     conv=>rhs;rw [fF,zBv d]
def zQ (a:Nat) (b:a≠0) (c:a < 128 ^ 10):fF 10 a=fF 10 (a / 128)++ [UInt8.ofNat (a % 128+128)]:=by
 rw [zR 9 (a / 128) oM]
 conv=>lhs;rw [fF,zBv b]
def tS (a:Nat):∀b,(fF a b).length<=a:=by
 induction a with
 | zero=>intro b;simp [fF]
 | succ a c=>
   intro b;unfold fF;split
   · simp
   have:=c (b / 128);simp;omega
def bP (a:Nat):(aH a).length<=11:=by
 have:=tS 10 (a / 128);simp [aH];omega
def oI (a:List Nat):(bX a).length<=11*a.length:=by
 induction a with
 | nil=>simp [bX]
 | cons b a c=>
   have:=bP b;simp [bX] at c⊢;omega
def uF (b:List Nat) (a:Nat) (c:Nat) (d:b[a]?=some c):bX (b.take (a+1))=bX (b.take a)++aH c:=by
 have e:a < b.length:=(zAc.1 d).1;rw [List.take_succ_eq_append_getElem e];have:b[a]=c:=(zAc.1 d).2;rw [this];simp [bX,List.flatMap_append]
def aCg (b c a:Nat) (f:c+1<=a) (e:a=0∨1<=b / 2 ^(7*a)):b / 2 ^(7*(c+1))≠0:=by
 have g:1<=b / 2 ^(7*a):=by rcases e with d | d <;> omega
 have i:b / 2 ^(7*a)<=b / 2 ^(7*(c+1)):=Nat.div_le_div_left (zBo oM oM) (Nat.pow_pos oM);omega
def aCX (a b:Nat) (c:a < 18446744073709551616):a / 2 ^(7*(b+1)) < 128 ^ 9:=by
 have d:a / 2 ^(7*(b+1))<=a / 2 ^ 7:=Nat.div_le_div_left (zBo oM oM) (Nat.pow_pos oM);omega
def aC5 (b a:Nat):b / 2 ^(7*(a+1))=b / 2 ^(7*a)/ 128:=by
 rw [Nat.div_div_eq_div_mul,show 7*(a+1)=7*a+7 by omega,Nat.pow_add]
def zH (b a:Nat) (e:b < 18446744073709551616) (f:a<=9) (d:128<=b / 2 ^(7*a)):a+1<=9:=by
 by_cases c:a=9;subst c;rw [Nat.le_div_iff_mul_le dC] at d;omega;omega
def jY (a:Nat):bX [a]=aH a:=by simp [bX]
def aAa (b:Nat):∀a e c,a < 128 ^ b->a < 144115188075855872->bO (fF b a++e) true 0 c=bO e (a==0) a (c+(fF b a).length):=by
 induction b with
 | zero=>intro a e c d _;have:a=0:=by simpa using d
         subst this;simp [fF]
 | succ b k=>
   intro a e c d l;by_cases f:a=0
   · subst f;simp [iZ]
   · rw [fF,zBv f,zCk,k (a / 128) _ c (by rw [Nat.div_lt_iff_lt_mul oM];rw [Nat.pow_succ] at d;exact d) oM];rw [List.singleton_append,fH];have j:(UInt8.ofNat (a % 128+128)).toNat=a % 128+128:=(by simp [UInt8.toNat_ofNat'];omega);rw [j,zBv,zBv oM]
     · have i:a / 128*128+(a % 128+128)% 128=a:=oM;rw [i,zAi,List.length_singleton,Nat.add_assoc];have:(a==0)=false:=(by simp [f]);rw [this]
     by_cases g:a / 128=0;simp [g];omega;simp [g];omega
def jF (a:Nat) (e:a < 18446744073709551616) (d:List UInt8) (b:Nat):bO (aH a++d) true 0 b=some (a,b+(aH a).length):=by
 unfold aH;rw [zCk,aAa 10 (a / 128) _ b oM oM,List.singleton_append,fH];have c:(UInt8.ofNat (a % 128)).toNat=a % 128:=by simp [UInt8.toNat_ofNat'];omega
 rw [c,zBv,zBw oM,zAi,List.length_singleton];congr 2;omega;simp;omega
def aBx (a:Nat):0 < (aH a).length:=by simp [aH]
def aBm (b d:List UInt8) (a:Nat) (c:a < 18446744073709551616):aW (b++(aH a++d)) (b.length:Int)=(a,((b.length+(aH a).length:Nat):Int),0):=by
 rw [aW,zBv (by simp;omega)];simp only [zBq,List.drop_left];rw [jF a c]
def wG (c:Nat):∀a b,a < 128 ^ c->((fF c a).length<=b↔a < 128 ^ b):=by
 induction c with
 | zero=>intro a b d;have:a=0:=by simpa using d
         subst this;simp [fF,Nat.pow_pos]
 | succ c f=>
   intro a b d;by_cases e:a=0
   · subst e;simp [iZ,Nat.pow_pos]
   rw [fF,zBv e];rcases b with _ | b;simp;omega;have:=f (a / 128) b (by rw [Nat.div_lt_iff_lt_mul oM];rw [Nat.pow_succ] at d;exact d);rw [zAi,List.length_singleton];rw [Nat.div_lt_iff_lt_mul oM,<-Nat.pow_succ] at this;omega
def bB (a:List (Int×Nat)) (b:Int):List (Int×Nat):=
 match a.getLast? with
 | some (c,d)=>if c=b then a.dropLast++ [(c,d+1)] else a++ [(b,1)]
 | none=> [(b,1)]
def aG (a:List Int):List (Int×Nat):=a.foldl bB []
def tD (b:List Int) (a:Nat) (d:Int) (c:b[a]?=some d):aG (b.take (a+1))=bB (aG (b.take a)) d:=by
 have e:a < b.length:=(zAc.1 c).1;rw [List.take_succ_eq_append_getElem e,(zAc.1 c).2];simp [aG,List.foldl_append]
def cY (c:List (Int×Nat)) (a:Int) (b:Nat):bB (c++ [(a,b)]) a=c++ [(a,b+1)]:=by simp [bB]
def cO (d:List (Int×Nat)) (b a:Int) (c:Nat) (e:b≠a):bB (d++ [(b,c)]) a=d++ [(b,c)]++ [(a,1)]:=by simp [bB,e]
def tE (a:Int):bB [] a= [(a,1)]:=by simp [bB]
def tF (a:List (Int×Nat)) (b:Int):(bB a b).length<=a.length+1/\a.length<=(bB a b).length:=by
 rcases List.eq_nil_or_concat a with rfl |⟨f,⟨d,e⟩,rfl⟩
 · simp [bB]
 · rw [List.concat_eq_append];by_cases c:d=b
   · subst c;rw [cY];simp
   · rw [cO _ _ _ _ c];simp
def gJ (a:List Int):(aG a).length<=a.length:=by
 have e:∀(a:List Int) (b:List (Int×Nat)),(a.foldl bB b).length<=b.length+a.length:=by
  intro a
  induction a with
  | nil=>intro b;simp
  | cons c a d=>intro b;have:=d (bB b c);have f:=(tF b c).1;simp only [zCm,zCe];omega
 have:=e a [];simpa [aG] using this
def bH (b:List (Int×Nat)):List Int:=b.flatMap fun a=>List.replicate a.2 a.1
def uD (a:List (Int×Nat)) (b:Int):bH (bB a b)=bH a++ [b]:=by
 rcases List.eq_nil_or_concat a with rfl |⟨f,⟨d,e⟩,rfl⟩
 · simp [bB,bH]
 · rw [List.concat_eq_append];by_cases c:d=b
   · subst c;rw [cY];simp [bH,List.flatMap_append,List.replicate_succ']
   · rw [cO _ _ _ _ c];simp [bH,List.flatMap_append]
def iI (a:List Int):bH (aG a)=a:=by
 have d:∀(a:List Int) (b:List (Int×Nat)),bH (a.foldl bB b)=bH b++a:=by
  intro a
  induction a with
  | nil=>intro b;simp
  | cons e a c=>intro b;rw [zCm,c,uD];simp
 have:=d a [];simpa [aG,bH] using this
def iS (a:List (Int×Nat)):Prop:=(∀e∈a,1<=e.2)/\a.Pairwise (fun _ _=>True)/\∀d b c,a[d]?=some b->a[d+1]?=some c->b.1≠c.1
def vZ (k:List (Int×Nat)) (l:Int) (s:iS k):iS (bB k l):=by
 obtain ⟨r,_,n⟩:=s;refine ⟨?_,List.pairwise_of_forall (by intros;trivial),?_⟩
 · rcases List.eq_nil_or_concat k with rfl |⟨g,⟨f,j⟩,rfl⟩
   · simp [bB]
   · rw [List.concat_eq_append] at*
     by_cases e:f=l
     · subst e;rw [cY];intro p c;rcases zCl.1 c with c | c;exact r p (List.mem_append_left _ c)
       · have:=List.mem_singleton.1 c;subst this;simp
     · rw [cO _ _ _ _ e];intro p c;rcases zCl.1 c with c | c;exact r p c
       · have:=List.mem_singleton.1 c;subst this;simp
 · intro d m q b a;rcases List.eq_nil_or_concat k with rfl |⟨g,⟨f,j⟩,rfl⟩
   · simp [bB] at a
   · rw [List.concat_eq_append] at*
     by_cases e:f=l
     · subst e;rw [cY] at b a;have o:d+1 < (g++ [(f,j+1)]).length:=(zAc.1 a).1;simp at o;by_cases i:d+1=g.length;rw [zAo oM,i] at a;simp at a;rw [zAn oM] at b;have:=n d m (f,j) (by rw [zAn oM];exact b) (by rw [zAo oM,i];simp);rw [<-a];exact this
       · rw [zAn oM] at b a;exact n d m q (by rw [zAn oM];exact b) (by rw [zAn oM];exact a)
     rw [cO _ _ _ _ e] at b a;have o:d+1 < (g++ [(f,j)]++ [(l,1)]).length:=(zAc.1 a).1;simp at o;by_cases i:d=g.length;subst i;rw [zAn (by simp)] at b;simp at b;rw [zAo (by simp)] at a;simp at a;rw [<-b,<-a];exact e;rw [zAn (by simp;omega)] at b a;exact n d m q b a
def pY (a:List Int):iS (aG a):=by
 have e:∀(a:List Int) (b:List (Int×Nat)),iS b->iS (a.foldl bB b):=by
  intro a
  induction a with
  | nil=>intro b c;exact c
  | cons f a d=>intro b c;exact d _ (vZ b f c)
 exact e a [] ⟨by simp,List.Pairwise.nil,by simp⟩
def tC (d:List (Int×Nat)) (k:iS d):aG (bH d)=d:=by
 have p:∀(e:Nat) (a:List (Int×Nat)) (b:Int) (c:Nat),(List.replicate e b).foldl bB (a++ [(b,c)])=a++ [(b,c+e)]:=by
  intro e
  induction e with
  | zero=>intro a b c;simp
  | succ e g=>intro a b c;rw [List.replicate_succ,zCm,cY,g];congr 3;omega
 have n:∀(d:List (Int×Nat)) (a:List (Int×Nat)),iS (a++d)->(bH d).foldl bB a=a++d:=by
  intro d
  induction d with
  | nil=>intro a _;simp [bH]
  | cons i d g=>
    intro a f;obtain ⟨b,e⟩:=i;have r:1<=e:=f.1 (b,e) (by simp);obtain ⟨c,rfl⟩:∃c,e=c+1:=⟨e - 1,by omega⟩;have j:bH ((b,c+1)::d)=b::(List.replicate c b++bH d):=(by simp [bH,List.replicate_succ]);rw [j,zCm,List.foldl_append]
    have l:bB a b=a++ [(b,1)]:=by
        rcases List.eq_nil_or_concat a with rfl |⟨o,⟨q,m⟩,rfl⟩
        · simp [bB]
        · rw [List.concat_eq_append] at*
          have:=f.2.2 o.length (q,m) (b,c+1) (by simp) (by simp);rw [cO _ _ _ _ this]
    rw [l,p c a b 1,show 1+c=c+1 by omega];have:=g (a++ [(b,c+1)]) (by simpa using f);rw [this];simp
 have:=n d [] (by simpa using k);simpa [aG] using this
def xA (a:List (Int×Nat)) (d:Int×Nat) (b:d∈a):d.2<=(bH a).length:=by
 induction a with
 | nil=>cases b
 | cons c a f=>
   have e:bH (c::a)=List.replicate c.2 c.1++bH a:=(by simp [bH]);rw [e,zAi,zCj];rcases List.mem_cons.1 b with rfl | b;omega;have:=f b;omega
def jQ (b:List Int) (a:Int×Nat) (c:a∈aG b):a.2<=b.length:=by
 have:=xA _ a c;rwa [iI] at this
def fB (a:Int):Prop:=0<=a/\a < 257
instance (s:Int):Decidable (fB s):=inferInstanceAs (Decidable (_/\_))
def bE (a:Int×Nat):List UInt8:=aH a.1.toNat++aH a.2
def cL (a:List (Int×Nat)):List UInt8:=aH a.length++a.flatMap bE
def kU (a:List Int):Option (List UInt8):=if ∀b∈aG a,fB b.1 then some (cL (aG a)) else none
def mM (a:Int×Nat):(bE a).length<=22:=by
 have:=bP a.1.toNat;have:=bP a.2;simp [bE];omega
def pF (b:List (Int×Nat)) (a:Nat) (d:Int×Nat) (c:b[a]?=some d):(b.take (a+1)).flatMap bE=(b.take a).flatMap bE++bE d:=by
 have e:a < b.length:=(zAc.1 c).1;rw [List.take_succ_eq_append_getElem e,(zAc.1 c).2];simp [List.flatMap_append]
def mP (a:List (Int×Nat)):(a.flatMap bE).length<=22*a.length:=by
 induction a with
 | nil=>simp
 | cons b a c=>
   have:=mM b;rw [List.flatMap_cons,zAi,zCe];omega
def jL (b:List UInt8) (a:Nat):Option (Nat×Nat×Nat):=
 match bO (b.drop a) true 0 a with
 | none=>none
 | some (f,c)=>
   match bO (b.drop c) true 0 c with
   | none=>none
   | some (e,d)=>some (f,e,d)
def rgo (c:List UInt8) (e:Nat):Nat->Nat->Nat->List Int->List Int×Int
 | 0,a,_,acc=>if a=c.length then (acc,0) else ([],4)
 | n+1,a,last,acc=>
   match jL c a with
   | none=>([],4)
   | some (b,d,f)=>if 257<=b∨b=last∨d=0 then ([],4) else if e - acc.length < d then ([],3) else rgo c e n f b (acc++List.replicate d (b:Int))
def gP (a:List UInt8) (c:Int):List Int×Int:=
 match bO a true 0 0 with
 | none=>([],4)
 | some (d,b)=>rgo a c.toNat d b 257 []
def oF (f:List UInt8):∀first b d e c,bO f first b d=some (e,c)->d < c/\c<=d+f.length/\e < 18446744073709551616:=by
 induction f with
 | nil=>intro first b d e c a;rw [bO] at a;cases a
 | cons j l i=>
   intro first b d e c a
   rw [fH] at a;split at a
   · cases a
   · rename_i g
     split at a
     · injection a with a;injection a with h1 h2;subst h1;subst h2;have k:b<=144115188075855871:=(by rcases zBe 144115188075855871 b with a | a;exact absurd (by simp [a]) g;exact a);refine ⟨by omega,by simp,by omega⟩
     have:=i _ _ _ _ _ a;simp only [zCe];omega
def jV (b:List UInt8) (a d c:Nat) (f:a<=b.length) (e:bO (b.drop a) true 0 a=some (d,c)):aW b (a:Int)=(d,(c:Int),0):=by
 rw [aW,zBv oM];simp only [zBq,e]
def jW (b:List UInt8) (a:Nat) (d:a<=b.length) (c:bO (b.drop a) true 0 a=none):aW b (a:Int)=(0,(a:Int),4):=by
 rw [aW,zBv oM];simp only [zBq,c]
def tM (b:List UInt8) (f g a e:Nat) (c:List Int) (d:jL b a=none):rgo b f (g+1) a e c=([],4):=by simp only [rgo,d]
def tL (d:List UInt8) (e j f i:Nat) (c:List Int) (a b g:Nat) (k:jL d f=some (a,b,g)):
 rgo d e (j+1) f i c=if 257<=a∨a=i∨b=0 then ([],4) else if e - c.length < b then ([],3) else rgo d e j g a (c++List.replicate b (a:Int)):=by simp only [rgo,k]
def tH (b:List UInt8) (a:Nat) (c:bO (b.drop a) true 0 a=none):jL b a=none:=by simp only [jL,c]
def tG (b:List UInt8) (a f c:Nat) (d:bO (b.drop a) true 0 a=some (f,c)) (e:bO (b.drop c) true 0 c=none):jL b a=none:=by simp only [jL,d,e]
def nZ (b:List UInt8) (a f c e d:Nat) (g:bO (b.drop a) true 0 a=some (f,c)) (i:bO (b.drop c) true 0 c=some (e,d)):jL b a=some (f,e,d):=by simp only [jL,g,i]
def gA (a:Nat):(iG a).length=4:=by simp [iG,rI]
def aBr (a e b:Nat) (g:b < a):(rI a e)[b]?=some (UInt8.ofNat (e / 256 ^ b % 256)):=by
 induction a with
 | zero=>omega
 | succ a d=>
   have c:∀a,(rI a e).length=a:=fun a=>by induction a with
    | zero=>rfl
    | succ a d=>simp [rI,d]
   rw [rI];by_cases f:b=a
   · subst f;rw [zAo (by rw [c];omega),c];simp
   · rw [zAn (by rw [c];omega),d oM]
def yE (c f:List UInt8) (a:Nat) (j:a < 4294967296):ofB (c++(iG a++f)) (c.length:Int)=(a,0):=by
 have k:=gA a;rw [ofB,zBv (by simp;omega),zBv (by simp;omega)];have d:∀b,b < 4->(c++(iG a++f))[c.length+b]?=some (UInt8.ofNat (a / 256 ^ b % 256)):=fun b i=>by rw [zAo oM,Nat.add_sub_cancel_left,zAn oM];exact aBr 4 a b i
 simp only [ofN,zBq];rw [d 0 oM,d 1 oM,d 2 oM,d 3 oM];have g:∀e:Nat,(UInt8.ofNat (e % 256)).toNat=e % 256:=fun e=>by simp [UInt8.toNat_ofNat']
 simp only [Option.getD_some,g];congr 1;simp only [Nat.reducePow,Nat.div_one,zBl];omega
def bI (a:Nat):Nat:=if a % 2=1 then (a / 2)^^^ 3988292384 else a / 2
def bU:Nat->Nat->Nat
 | 0,s=>s
 | k+1,s=>bI (bU k s)
def eO (a:Nat):Nat:=bU 8 a
def fR:List UInt8->Nat->Nat
 | [],a=>a
 | c::r,a=>fR r (eO ((a % 256)^^^ c.toNat)^^^(a / 256))
def rK (b:Nat) (a:List UInt8):Nat:=4294967295 - fR a (4294967295 - b)
def dQ (a:List UInt8):Nat:=rK 0 a
def xE {a:Nat} (b:a < 4294967296):bI a < 4294967296:=by
 unfold bI;split;exact Nat.xor_lt_two_pow (n:=32) oM oM;omega
def lC {c:Nat} (b:c < 4294967296):∀a,bU a c < 4294967296
 | 0=>b
 | a+1=>xE (lC b a)
def qI {a:Nat} (b:a < 256):eO a < 4294967296:=lC oM 8
def aBF {b:Nat} (c:b < 4294967296) (a:UInt8):(b % 256)^^^ a.toNat < 256:=Nat.xor_lt_two_pow (n:=8) oM a.toNat_lt
def aBE {a:Nat} (c:a < 4294967296) (b:UInt8):eO ((a % 256)^^^ b.toNat)^^^(a / 256) < 4294967296:=
 Nat.xor_lt_two_pow (n:=32) (qI (aBF c b)) oM
def iJ:∀(d:List UInt8) (b:Nat),b < 4294967296->fR d b < 4294967296
 | [],_,a=>a
 | c::r,b,a=>iJ r _ (aBE a c)
def kA:∀(c:List UInt8) (a:UInt8) (b:Nat),fR (c++ [a]) b=eO ((fR c b % 256)^^^ a.toNat)^^^(fR c b / 256)
 | [],_,_=>rfl
 | d::r,a,b=>kA r a _
def rL (a:List UInt8):dQ a < 4294967296:=by
 unfold dQ rK;have:=iJ a (4294967295 - 0) oM;omega
def bL (a:List UInt8):List UInt8:=aH a.length++(a++iG (dQ a))
def cM:List UInt8:= [83,75,82,49]
def jK (d:List Nat) (a b:Nat):List UInt8:=(List.range (b / a+1)).flatMap fun c=>aH (d.idxOf (c*a))
def eG (a:List Nat):List Int:=a.map fun b:Nat=>(b:Int)
def cF (a:List Nat):List UInt8:=cL (aG (eG a))
def eR (c e:List Nat) (d b a:Nat):List UInt8:=cM++(bX [d,b,a]++(bL (cF c)++bL (jK e b a)))
def bT (a e:List Nat) (c d b:Nat):List UInt8:=eR a e c d b++iG (dQ (eR a e c d b))
def iE {d a r:List UInt8} {b c e:Nat} (f:d=a++(aH b++r)) (g:a.length=c) (ht:c+(aH b).length=e) (i:b < 18446744073709551616):aW d (c:Int)=(b,(e:Int),0):=by
 rw [f,<-ht,<-g];exact aBm a r b i
structure SnAt (body:List UInt8) (most rate N:Nat) (f s:List UInt8) (p1 p2 p3 p4 p5:Nat):Prop where
 e1:body=cM++(aH most++(aH rate++(aH N++(bL f++bL s))))
 h1:4+(aH most).length=p1
 h2:p1+(aH rate).length=p2
 h3:p2+(aH N).length=p3
 h4:p3+(bL f).length=p4
 h5:p4+(bL s).length=p5
def gC (c e:List Nat) (d b a:Nat):eR c e d b a=cM++(aH d++(aH b++(aH a++(bL (cF c)++bL (jK e b a))))):=by
 unfold eR;simp [bX]
def SnAt.of (c e:List Nat) (d b a:Nat):∃g i j k f,SnAt (eR c e d b a) d b a (cF c) (jK e b a) g i j k f/\(eR c e d b a).length=f:=by
 refine ⟨_,_,_,_,_,⟨gC c e d b a,rfl,rfl,rfl,rfl,rfl⟩,?_⟩;rw [gC];simp [cM];omega
def SnAt.n1 {c g o:List UInt8} {b n f e j k l m:Nat} (d:SnAt c b n f g o e j k l m) (i:b < 18446744073709551616):aW c 4=(b,(e:Int),0):=
 iE (a:=cM) d.e1 rfl d.h1 i
def SnAt.n2 {e f k:List UInt8} {g c d i j m n o:Nat} (b:SnAt e g c d f k i j m n o) (l:c < 18446744073709551616):aW e (i:Int)=(c,(j:Int),0):=
 iE (a:=cM++aH g) (r:=aH d++(bL f++bL k)) (by rw [b.e1];simp) (by rw [zAi];have:=b.h1;have:cM.length=4:=rfl;omega) b.h2 l
def SnAt.n3 {d e k:List UInt8} {f j c m g i n o:Nat} (b:SnAt d f j c e k m g i n o) (l:c < 18446744073709551616):aW d (g:Int)=(c,(i:Int),0):=
 iE (a:=cM++(aH f++aH j)) (r:=bL e++bL k) (by rw [b.e1];simp) (by rw [zAi,zAi];have:=b.h1;have:=b.h2;have:cM.length=4:=rfl;omega) b.h3 l
def dY (a:List UInt8):(bL a).length=(aH a.length).length+(a.length+4):=by
 unfold bL;rw [zAi,zAi,gA]
def SnAt.f1 {c b m:List UInt8} {f j e p q d g r:Nat} (a:SnAt c f j e b m p q d g r) (o:b.length < 18446744073709551616):
 ∃i:Nat,aW c (d:Int)=(b.length,(i:Int),0)/\i+(b.length+4)=g/\(c.drop i).take b.length=b/\g<=c.length:=by
 have k:c=(cM++(aH f++(aH j++aH e)))++(aH b.length++((b++iG (dQ b))++bL m)):=by rw [a.e1];simp [bL]
 have l:(cM++(aH f++(aH j++aH e))).length=d:=by simp only [zAi];have:=a.h1;have:=a.h2;have:=a.h3;have:cM.length=4:=rfl;omega
 refine ⟨d+(aH b.length).length,iE k l rfl o,?_,?_,?_⟩;have:=a.h4;rw [dY] at this;omega
 · rw [k,<-zCk,List.drop_left' (by rw [zAi,l]),zCk,List.take_left' rfl]
 have w:=a.h5;have n:=congrArg List.length a.e1;simp only [zAi] at n;have s:=a.h1;have t:=a.h2;have u:=a.h3;have v:=a.h4;have x:cM.length=4:=rfl;omega
def SnAt.f2 {c f b:List UInt8} {g k e p q r d i:Nat} (a:SnAt c g k e f b p q r d i) (o:b.length < 18446744073709551616):
 ∃j:Nat,aW c (d:Int)=(b.length,(j:Int),0)/\j+(b.length+4)=i/\(c.drop j).take b.length=b/\i=c.length:=by
 have l:c=(cM++(aH g++(aH k++(aH e++bL f))))++(aH b.length++((b++iG (dQ b))++ [])):=by rw [a.e1];simp [bL]
 have m:(cM++(aH g++(aH k++(aH e++bL f)))).length=d:=by simp only [zAi];have:=a.h1;have:=a.h2;have:=a.h3;have:=a.h4;have:cM.length=4:=rfl;omega
 refine ⟨d+(aH b.length).length,iE l m rfl o,?_,?_,?_⟩;have:=a.h5;rw [dY] at this;omega
 · rw [l,<-zCk,List.drop_left' (by rw [zAi,m]),zCk,List.take_left' rfl]
 have w:=a.h5;have n:=congrArg List.length a.e1;simp only [zAi] at n;have s:=a.h1;have t:=a.h2;have u:=a.h3;have v:=a.h4;have x:cM.length=4:=rfl;omega
end
section
open Go.RowKit
def fQ:(prog.info? 5).map (fun a=>(a.zero,a.size,a.bytes))=some (some (.int .u8 0),1,1):=by kernel_rfl
def uv (a:Nat):Value:=.int .u64 (a:Int)
def aDq (a:Nat):bits .or .u8 ((a:Int)% 256) 128=((a % 128+128:Nat):Int):=by
 have c:∀b:Fin 256,bits .or .u8 ((b.val:Nat):Int) 128=((b.val % 128+128:Nat):Int):=by decide+kernel
 have:=c ⟨a % 256,by omega⟩;simp only at this;rw [show ((a:Int)% 256)=((a % 256:Nat):Int) by omega,this];omega
def aDd (a:Nat):bits .and .u8 ((a:Int)% 256) 127=((a % 128:Nat):Int):=by
 have c:∀b:Fin 256,bits .and .u8 ((b.val:Nat):Int) 127=((b.val % 128:Nat):Int):=by decide+kernel
 have:=c ⟨a % 256,by omega⟩;simp only at this;rw [show ((a:Int)% 256)=((a % 256:Nat):Int) by omega,this];omega
def aDu (b a:Nat):Value.int .u8 (bits .or .u8 ((b:Int)/ 2 ^ a % 256) 128)=bv (UInt8.ofNat (b / 2 ^ a % 128+128)):=by
 have:((b:Int)/ 2 ^ a)=((b / 2 ^ a:Nat):Int):=by push_cast;rfl
 rw [this,aDq];unfold bv;congr 1;simp [UInt8.toNat_ofNat'];omega
def aC8 (a:Nat):Value.int .u8 (bits .and .u8 ((a:Int)% 256) 127)=bv (UInt8.ofNat (a % 128)):=by
 rw [aDd];unfold bv;congr 1;simp [UInt8.toNat_ofNat'];omega
def aCx (y:Option Addr) (i O:Nat) (e:List Nat) (d:World) (w:Rd d d.heap.size 1 y i (e.map uv)) (D:∀a∈e,a < 18446744073709551616) (ac:i<=100000):
 Calls prog 77 #[.slice y i O] d fun P K=>∃l b,P=.returned l/\K.ownsRow d.heap.size 5 1 l b ((bX e).map bv)/\Below d.heap.size d K:=by
 obtain ⟨J,C,G,H,I⟩:=info_parts fQ;obtain ⟨N,M⟩:=hqq2 w D;have E:=w.1;have A:=lhd E;clear w D E;go_enter func77,ntmps77;go_wp2;go_loopw [3,9] (fun l f wr=>∃b r:Nat,b<=i/\f=.int .i64 b/\wr.ownsRow d.heap.size 5 1 l r ((bX (e.take b)).map bv)/\Below d.heap.size d wr) (fun _ f _=>i -(intOf f).toNat)
 case atStart=>exact ⟨0,0,zAp _,rfl,World.ownsRow_nil _ _ _ _,Below.refl _ _⟩
 case round=>
  obtain ⟨b,r,ab,rfl,v,s⟩:=hrel;by_cases a1:b < i
  · have a5:∃a,e[b]?=some a:=(by have:=A.out;simp at this;exact ⟨e[b]' oM,zAa oM⟩);obtain ⟨a,q⟩:=a5;obtain ⟨a8,ae,af,rfl,aa,x,V⟩:=(N.out.below s).get a1;rw [zAf,q] at x;simp at x;subst x;unfold uv at V;have F:a < 18446744073709551616:=M.out a (zAd q);obtain ⟨Hn,z⟩:=hqq2 q F;clear q F;go_wp2
    go_loop [6] (fun k=>∃c:Nat,c<=9/\k=.int .i64 (7*(c:Int))/\(c=0∨1<=a / 2 ^(7*c))) (fun k=>100 -(intOf k).toNat)
    case atStart=>exact ⟨0,by omega,rfl,.inl rfl⟩
    case round=>
        obtain ⟨c,X,rfl,W⟩:=hrel;go_wp2
        · have T:(128:Int)<=(a:Int)/ 2 ^(7*c):=(by assumption);have U:128<=a / 2 ^(7*c):=(by exact_mod_cast T);have Z:=zH a c z.out X U;refine ⟨⟨c+1,Z,by go_num,.inr (by rw [aC5];omega)⟩,by simp [intOf];omega⟩
        · have a3:(a:Int)/ 2 ^(7*c) < 128:=(by assumption);have a4:a / 2 ^(7*c) < 128:=(by exact_mod_cast a3);go_loopw [3,6] (fun l k L=>∃g j:Nat,g<=c/\k=.int .i64 (7*(g:Int))/\L.ownsRow d.heap.size 5 1 l j ((bX (e.take b)++fF 10 (a / 2 ^(7*(g+1)))).map bv)/\Below d.heap.size d L) (fun _ k _=>(intOf k).toNat)
          case atStart=>exact ⟨c,r,zAs _,rfl,by rw [aC5,Nat.div_eq_of_lt a4];simpa [iZ] using v,s⟩
          case round=>
           obtain ⟨g,j,Y,rfl,m,t⟩:=hrel;have o:=t.size;have ad:j<=1100010:=(by have R:=m.1;have S:=oI (e.take b);have a9:=tS 10 (a / 2 ^(7*(g+1)));simp at R S;omega);by_cases Q:g=0
           · subst Q;go_wp2_with (at_builtin;refine aZ _ rfl (.tmp 33) (.tmp 37) _ rfl d.heap.size 5 J (.int .u8 0) 1 1 underlying22 C G H I rfl dC u3 j _ rfl m rfl rfl (by simp [Value.oneCell']) (by unfold maxLen;omega) oM o ?_;intro a6 a7 n p a2 B);have u:=aS t m p o;clear p B;go_roundw
             case rel=>refine ⟨b+1,j+1,by omega,by go_num,?_,u⟩;rw [uF e b a Hn.out];rw [aC8] at n;simpa [aH] using n
             case measure=>simp [intOf];omega
           · go_wp2_with (at_builtin;refine aZ _ rfl (.tmp 24) (.tmp 31) _ rfl d.heap.size 5 J (.int .u8 0) 1 1 underlying22 C G H I rfl dC u3 j _ rfl m rfl rfl (by simp [Value.oneCell']) (by unfold maxLen;omega) oM o ?_;intro a6 a7 n p a2 B);have u:=aS t m p o;refine ⟨⟨g - 1,j+1,by omega,dH oM,?_,u⟩,by simp [intOf];omega⟩;rw [aDu] at n;obtain ⟨f,rfl⟩:∃f,g=f+1:=⟨g - 1,by omega⟩;rw [zBb,zQ (a / 2 ^(7*(f+1))),<-aC5];simpa using n;exact aCg a f c Y W;exact zAl (aCX a f z.out) dC
  · have a0:b=i:=oM;subst a0;go_wp2;go_ret;refine ⟨u3,r,rfl,?_,s⟩;have:e.take b=e:=zAg (by have:=A.out;simp at this;omega);rw [this] at v;exact v
def aCy (f:Option Addr) (e k j:Nat) (a:List Nat) (b:World) (s:Rd b j 1 f e (a.map uv)) (n:j<=b.heap.size) (r:∀u∈a,u < 18446744073709551616) (g:e<=100000):
 Calls prog 77 #[.slice f e k] b fun l i=>∃c d,l=.returned (.slice c (bX a).length d)/\Made i b.heap.size 5 1 c (bX a).length d ((bX a).map bv)/\Below b.heap.size b i:=by
 refine (aCx f e k a b (s.mono n) r g).mono fun l i ⟨v,t,p,m,o⟩=>?_;have q:(bX a).length=t:=by simpa using m.1
 subst q;obtain ⟨c,d,rfl,g⟩:=aO m;exact ⟨c,d,p,g,o⟩
def pA (d:Option Addr) (c j e:Nat) (b:List Nat) (a:World) (f:List UInt8) (g:Nat) (o:bX b=f) (p:f.length=g) (s:Rd a e 1 d c (b.map uv)) (n:e<=a.heap.size) (q:∀t∈b,t < 18446744073709551616) (r:c<=100000):
 Calls prog 77 #[.slice d c j] a fun m l=>∃i k,m=.returned (.slice i g k)/\Made l a.heap.size 5 1 i g k (f.map bv)/\Below a.heap.size a l:=by
 subst o;subst p;exact aCy d c j e b a s n q r
def fP (a:Int×Nat):List Value:= [iv a.1,iv (a.2:Int)]
def aV (a:List (Int×Nat)):List Value:=a.flatMap fP
def kQ (a:List (Int×Nat)):(aV a).length=a.length*2:=by
 induction a with
 | nil=>rfl
 | cons b a d=>
   have c:aV (b::a)=fP b++aV a:=(by simp [aV]);rw [c,zAi,d,zCe];simp [fP];omega
def eM (a b:List (Int×Nat)):aV (a++b)=aV a++aV b:=by simp [aV,List.flatMap_append]
def eU (b:List (Int×Nat)) (a d:Nat) (g:Int×Nat) (c:b[a]?=some g) (k:d < 2):(aV b)[a*2+d]?=(fP g)[d]?:=by
 induction b generalizing a with
 | nil=>simp at c
 | cons e b j=>
   have f:aV (e::b)=fP e++aV b:=(by simp [aV]);have i:(fP e).length=2:=rfl;rcases a with _ | a
   · simp at c;subst c;rw [f,Nat.zero_mul,zBi,zAn oM]
   simp only [List.getElem?_cons_succ] at c;rw [f,zAo oM,i,show (a+1)*2+d - 2=a*2+d by omega];exact j a c
def aAW:(prog.info? 196).map (fun a=>(a.zero,a.size,a.bytes))=some (some (.agg #[.int .i64 0,.int .i64 0]),2,16):=by kernel_rfl
def aDg (J:Option Addr) (j a0 K:Nat) (e:List Int) (g:World) (F:Rd g K 1 J j (e.map iv)) (a9:K<=g.heap.size) (az:j<=1099511627776):
 Calls prog 159 #[.slice J j a0] g fun a2 X=>∃w,a2=.returned w/\X.ownsRow g.heap.size 196 2 w (aG e).length (aV (aG e))/\Below g.heap.size g X:=by
 obtain ⟨W,L,T,U,V⟩:=info_parts aAW;have O:e.length=j:=by simpa using F.1
 obtain ⟨x,Z⟩:=hqq2 O (F.mono a9);clear F O;go_enter func159,ntmps159;go_wp2;go_loopw [3,9] (fun w I wr=>∃c:Nat,c<=j/\I=.int .i64 c/\wr.ownsRow g.heap.size 196 2 w (aG (e.take c)).length (aV (aG (e.take c)))/\Below g.heap.size g wr) (fun _ I _=>j -(intOf I).toNat)
 case atStart=>exact ⟨0,zAp _,rfl,World.ownsRow_nil _ _ _ _,Below.refl _ _⟩
 case round=>
  obtain ⟨c,ay,rfl,f,n⟩:=hrel;have v:=n.size;by_cases af:c < j
  · obtain ⟨m,G⟩:∃m,e[c]?=some m:=⟨e[c]'(by have:=x.out;omega),zAa (by have:=x.out;omega)⟩;obtain ⟨an,aD,aE,rfl,au,H,aa⟩:=(Z.out.below n).get af;rw [zAf,G] at H;simp at H;subst H;unfold iv at aa;have P:=tD e c m G;have N:=gJ (e.take c);rw [zAj] at N;have D:∀b∈aG (e.take c),b.2<=j:=fun b aj=>by have:=jQ _ b aj;rw [zAj] at this;omega
    generalize aG (e.take c)=r at*
    have y:=lhd P;clear P G;rcases List.eq_nil_or_concat r with rfl |⟨k,⟨b,d⟩,rfl⟩
    · obtain ⟨Y,a1,rfl,ag⟩:=aO f;have ae:([]:List (Int×Nat)).length=0:=rfl;rw [ae] at*
      clear ag D;go_wp2_with (at_builtin;refine aZ _ rfl (.tmp 36) (.tmp 39) _ rfl g.heap.size 196 W _ 2 16 underlying194 L T U V rfl dC (.slice Y 0 a1) 0 _ rfl f rfl rfl (by simp [Value.oneCell']) (by unfold maxLen;omega) oM v ?_;intro al am E q ah B);have C:=aS n f q v;clear q B;go_roundw
      case rel=>refine ⟨c+1,by omega,by go_num,?_,C⟩;rw [y.out,tE];exact E
      case measure=>simp [intOf];omega
    · rw [List.concat_eq_append] at*
      obtain ⟨a,s⟩:=eqx k.length;have M:(k++ [(b,d)]).length=a+1:=(by simp [s]);rw [M] at f N;obtain ⟨i,l,u,rfl,ab,ac,aB,av,_⟩:∃i l u,u3=.slice (some ⟨i,0,none⟩) (a+1) l/\g.heap.size<=i/\wr.heap[i]?=some (.cells u 196 (0,0))/\a+1<=l/\l<=maxLen/\True:=(by rcases f.2 with ⟨_,ar⟩|⟨i,l,u,a4,a5,a6,a7,a8,_⟩;omega;exact ⟨i,l,u,a4,a5,a6,a7,a8,trivial⟩);have R:(aV (k++ [(b,d)]))[a*2]?=some (iv b):=(by have:=eU (k++ [(b,d)]) a 0 (b,d) (by rw [zAo oM,s];simp) oM;simpa [fP] using this);have S:(aV (k++ [(b,d)]))[a*2+1]?=some (iv d):=(by have:=eU (k++ [(b,d)]) a 1 (b,d) (by rw [zAo oM,s];simp) oM;simpa [fP] using this);have ap:wr.cell? ⟨i,a*2,none⟩=some (.int .i64 b):=(f.cellAt (a*2) oM).trans R;have aq:wr.cell? ⟨i,a*2+1,none⟩=some (.int .i64 (d:Int)):=(f.cellAt (a*2+1) oM).trans S;have ao:=f.frozenAt (a*2+1);have aA:(d:Int)<=1099511627776:=(by have:=D (b,d) (by simp);simp only at this;omega);have aC:((a+1:Nat):Int) - 1=(a:Int):=oM;have t:=lhd s;clear R S s M ac D;by_cases o:b=m
      · have ak:(b==m)=true:=(by rw [zCn];exact o);have z:=lhd o;clear o;go_wp2;obtain ⟨ai,ax⟩:=f.stored (a*2+1) (.int .i64 ((d:Int)+1));refine ⟨⟨c+1,by omega,by go_num,?_,n.setCell (p:=⟨i,a*2+1,none⟩) ab _⟩,by simp [intOf];omega⟩;rw [y.out,<-z.out,cY];have A:(k++ [(b,d+1)]).length=a+1:=(by simp [t.out]);have a3:(aV (k++ [(b,d)])).set (a*2+1) (.int .i64 ((d:Int)+1))=aV (k++ [(b,d+1)]):=(by rw [eM,eM,List.set_append_right _ _ (by rw [kQ,t.out];omega),kQ,t.out];congr 1;rw [show a*2+1 - a*2=1 by omega];rfl);rw [A,<-a3];exact ai
      · have ak:(b==m)=false:=(by rw [zCa];exact o);have z:=lhd o;clear o;go_wp2_with (at_builtin;refine aZ _ rfl (.tmp 36) (.tmp 39) _ rfl g.heap.size 196 W _ 2 16 underlying194 L T U V rfl dC (.slice (some ⟨i,0,none⟩) (a+1) l) (a+1) _ rfl f rfl rfl (by simp [Value.oneCell']) (by unfold maxLen;omega) oM v ?_;intro al am E q ah B);have C:=aS n f q v;clear q B;go_roundw
        case rel=>refine ⟨c+1,by omega,by go_num,?_,C⟩;rw [y.out,cO _ _ _ _ z.out,eM];have A:(k++ [(b,d)]++ [(m,1)]).length=a+1+1:=(by simp [t.out]);rw [A];exact E
        case measure=>simp [intOf];omega
  · have ad:c=j:=oM;have Q:e.take c=e:=zAg (by have:=x.out;omega);have aw:j<=c:=oM;rw [Q] at f;clear ad Q;go_wp2;go_ret;exact ⟨u3,rfl,f,n⟩
def aBO (e:Option Addr) (d m f:Nat) (i:List Int) (a:World) (k:List (Int×Nat)) (j:Nat) (o:aG i=k) (s:k.length=j) (u:Rd a f 1 e d (i.map iv)) (p:f<=a.heap.size) (g:d<=1099511627776):
 Calls prog 159 #[.slice e d m] a fun n l=>∃b c,n=.returned (.slice b j c)/\Made l a.heap.size 196 2 b j c (aV k)/\Below a.heap.size a l:=by
 subst o;subst s;refine (aDg e d m f i a u p g).mono fun n l ⟨v,r,t,q⟩=>?_;obtain ⟨b,c,rfl,g⟩:=aO t;exact ⟨b,c,r,g,q⟩
end
end Go.Proofs.YtnmapianpjamnaaGreatDoor
