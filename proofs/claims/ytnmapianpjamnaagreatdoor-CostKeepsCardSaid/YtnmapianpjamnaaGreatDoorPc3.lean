/- Lemmas of the walk. Conditions: each its own. -/
import Derived.Test.YtnmapianpjamnaaGreatDoorPc1
import Derived.Test.YtnmapianpjamnaaGreatDoorProg
set_option linter.all false
set_option maxRecDepth 100000
set_option maxHeartbeats 2000000
namespace Go.Proofs.YtnmapianpjamnaaGreatDoor
open Tryz
section
open Go.RowKit
def nN (d:Nat) (c:List Bool) (b:Nat) (a:World) (e:Bk a d 240 (cC c)) (j:b < c.length):
 Calls prog 263 #[d,(b:Int)] a fun f g=>f=.returned (.int .i64 0)/\Below a.heap.size a g:=by
 have i:a.cell? d=some (.int .i64 (c.length:Int)):=(e.cell 0).trans rfl;have m:=e.lt;have k:¬(b:Int) < 0:=oM;have l:decide ((b:Int)>=(c.length:Int))=false:=by simp;omega
 clear e;go_enter func263,ntmps263;go_wp2_with fail;go_ret;exact ⟨rfl,Below.refl _ _⟩
def aFv (b:List Bool) (a:Nat):(if a < 64 then w0 b >>> a else w1 b >>>(a - 64))&&& 1=if b.getD a false then 1 else 0:=by
 by_cases d:a < 64
 · rw [zBx d];have:=gR (b.take 64) a;rw [Nat.and_one_is_mod,Nat.shiftRight_eq_div_pow,<-Nat.toNat_testBit,show (w0 b).testBit a=(b.take 64).getD a false from this];have c:(b.take 64).getD a false=b.getD a false:=(by simp [zAb,zBs,d]);rw [c];cases b.getD a false <;> rfl
 · rw [zBw d];have:=gR (b.drop 64) (a - 64);rw [Nat.and_one_is_mod,Nat.shiftRight_eq_div_pow,<-Nat.toNat_testBit,show (w1 b).testBit (a - 64)=(b.drop 64).getD (a - 64) false from this];have c:(b.drop 64).getD (a - 64) false=b.getD a false:=(by simp [zAb,zBt,show 64+(a - 64)=a by omega]);rw [c];cases b.getD a false <;> rfl
def aBr (b a:Nat) (c:Bool) (i:b < 18446744073709551616) (g:b >>> a&&& 1=if c then 1 else 0):(bits .and .u64 ((b:Int)/ 2 ^ a) 1==1)=c:=by
 have d:=uJ b a 1 (2 ^ a) i oM rfl;have e:((2 ^ a:Nat):Int)=(2:Int)^ a:=by push_cast;rfl
 rw [e] at d;have f:bits .and .u64 ((b:Int)/ 2 ^ a) 1=((b >>> a&&& 1:Nat):Int):=d;rw [f,g];cases c <;> rfl
def nO (e:Nat) (b:List Bool) (a:Nat) (i:World) (l:Bk i e 240 (cC b)) (z:b.length<=128) (y:a < b.length):
 Calls prog 225 #[e,(a:Int)] i fun n A=>n=.returned (.tuple #[.bool (b.getD a false),.int .i64 0])/\Below i.heap.size i A:=by
 have d:=lhd l;have c:=aFv b a;obtain ⟨m,p⟩:=eqx (b.getD a false);rw [p] at c⊢;clear p;have r:=jN b;have b1:=jK b z;have C:=l.lt;clear l;go_enter func225,ntmps225;go_wp2_with fail;refine (nN e b a _ d.out y).mono ?_;rintro n q ⟨rfl,f⟩;have g:=d.out.below f d.out.lt;have s:q.cell? ⟨e,1,none⟩=some (.int .u64 ((w0 b:Nat):Int)):=(g.cell 1).trans rfl;have t:q.cell? ⟨e,2,none⟩=some (.int .u64 ((w1 b:Nat):Int)):=(g.cell 2).trans rfl;have D:=g.lt;by_cases o:a < 64
 · rw [zBx o] at c;have v:(a:Int).tdiv 64=0:=(by rw [Int.tdiv_eq_ediv_of_nonneg oM];omega);have w:(a:Int).tmod 64=(a:Int):=(by rw [Int.tmod_eq_emod_of_nonneg oM];omega);have x:IntKind.u64.wrap (a:Int)=(a:Int):=(by rw [IntKind.wrap_u64];omega);generalize w0 b=u at*
   obtain ⟨k,j⟩:=hqq2 c f;clear f g t d c;go_wp2_with fail;go_ret2;exact ⟨by rw [aBr u a m r k.out];rfl,j.out⟩
 · rw [zBw o] at c;have v:(a:Int).tdiv 64=1:=(by rw [Int.tdiv_eq_ediv_of_nonneg oM];omega);have w:(a:Int).tmod 64=((a - 64:Nat):Int):=(by rw [Int.tmod_eq_emod_of_nonneg oM];omega);have x:IntKind.u64.wrap ((a - 64:Nat):Int)=((a - 64:Nat):Int):=(by rw [IntKind.wrap_u64];omega);have B:a - 64 < 64:=oM;generalize w1 b=u at*
   generalize a - 64=k2 at*
   obtain ⟨k,j⟩:=hqq2 c f;clear f g s d c;go_wp2_with fail;go_ret2;exact ⟨by rw [aBr u k2 m b1 k.out];rfl,j.out⟩
end
section
inductive Tr where
 | lf (b:List Bool)
 | nd (l r:Tr)
namespace Tr
def bits:Tr->List Bool
 | lf a=>a
 | nd b c=>b.bits++c.bits
def ht:Tr->Nat
 | lf _=>0
 | nd a b=>max a.ht b.ht+1
def lv:Tr->Nat
 | lf _=>1
 | nd a b=>a.lv+b.lv
def Avl:Tr->Prop
 | lf _=>True
 | nd a b=>a.Avl/\b.Avl/\a.ht<=b.ht+1/\b.ht<=a.ht+1
def Full:Tr->Prop
 | lf a=>32<=a.length/\a.length<=128
 | nd b c=>b.Full/\c.Full
def Ok:Tr->Prop
 | lf a=>1<=a.length/\a.length<=128
 | nd b c=>(nd b c).Avl/\(nd b c).Full
def uP:Tr->Tr->Tr
 | nd b c,a=>nd b (nd c a)
 | l,a=>nd l a
def uQ:Tr->Tr->Tr
 | a,nd b c=>nd (nd a b) c
 | a,r=>nd a r
def balL:Tr->Tr
 | nd a b=>if a.ht < b.ht then uQ a b else nd a b
 | l=>l
def balR:Tr->Tr
 | nd a b=>if b.ht < a.ht then uP a b else nd a b
 | l=>l
def bal (a b:Tr):Tr:=if b.ht+1 < a.ht then uP (balL a) b else if a.ht+1 < b.ht then uQ a (balR b) else nd a b
def ins:Tr->Nat->Bool->Tr
 | lf b,a,c=>if b.length=128 then (if 64 < a then nd (lf (b.take 64)) (lf (aI (b.drop 64) (a - 64) c)) else nd (lf (aI (b.take 64) a c)) (lf (b.drop 64))) else lf (aI b a c)
 | nd d e,a,c=>if a<=d.bits.length then bal (d.ins a c) e else bal d (e.ins (a - d.bits.length) c)
def mend:Tr->Tr->Tr
 | lf a,lf b=>if a.length < 32∨b.length < 32 then (if a.length+b.length<=128 then lf (a++b) else nd (lf ((a++b).take ((a.length+b.length)/ 2))) (lf ((a++b).drop ((a.length+b.length)/ 2)))) else nd (lf a) (lf b)
 | lf a,nd (lf b) c=>if a.length < 32 then (if a.length+b.length<=128 then nd (lf (a++b)) c else nd (lf ((a++b).take ((a.length+b.length)/ 2))) (nd (lf ((a++b).drop ((a.length+b.length)/ 2))) c)) else nd (lf a) (nd (lf b) c)
 | nd c (lf a),lf b=>if b.length < 32 then (if a.length+b.length<=128 then nd c (lf (a++b)) else nd (nd c (lf ((a++b).take ((a.length+b.length)/ 2)))) (lf ((a++b).drop ((a.length+b.length)/ 2)))) else nd (nd c (lf a)) (lf b)
 | l,r=>nd l r
def rebal:Tr->Tr
 | lf a=>lf a
 | nd b c=>bal b c
def drp:Tr->Nat->Tr
 | lf d,a=>lf (aC d a)
 | nd b c,a=>rebal (if a < b.bits.length then mend (b.drp a) c else mend b (c.drp (a - b.bits.length)))
def tI (a b:Tr):(uP a b).bits=a.bits++b.bits:=by cases a <;> simp [uP,bits]
def tK (b a:Tr):(uQ b a).bits=b.bits++a.bits:=by cases a <;> simp [uQ,bits]
def aCd (a:Tr):(balL a).bits=a.bits:=by
 cases a with
 | lf b=>rfl
 | nd c b=>simp only [balL];split <;> simp [tK,bits]
def aCb (a:Tr):(balR a).bits=a.bits:=by
 cases a with
 | lf b=>rfl
 | nd c b=>simp only [balR];split <;> simp [tI,bits]
def qW (a b:Tr):(bal a b).bits=a.bits++b.bits:=by
 unfold bal;split
 · rw [tI,aCd]
 · split
   · rw [tK,aCb]
   rfl
def tH (a b:Tr):(uP a b).Full↔a.Full/\b.Full:=by cases a <;> simp [uP,Full,and_assoc]
def tJ (b a:Tr):(uQ b a).Full↔b.Full/\a.Full:=by cases a <;> simp [uQ,Full,and_assoc]
def aCc (a:Tr):(balL a).Full↔a.Full:=by
 cases a with
 | lf b=>rfl
 | nd c b=>simp only [balL];split <;> simp [tJ,Full]
def aCa (a:Tr):(balR a).Full↔a.Full:=by
 cases a with
 | lf b=>rfl
 | nd c b=>simp only [balR];split <;> simp [tH,Full]
def qV (a b:Tr):(bal a b).Full↔a.Full/\b.Full:=by
 unfold bal;split
 · rw [tH,aCc]
 · split
   · rw [tJ,aCa]
   rfl
def bal_same (a b:Tr) (c:a.ht<=b.ht+1) (d:b.ht<=a.ht+1):bal a b=nd a b:=by
 unfold bal;rw [zBw oM,zBw oM]
def vT (a b:Tr) (n:a.Avl) (o:b.Avl) (k:a.ht<=b.ht+2) (l:b.ht<=a.ht+2):(bal a b).Avl/\max a.ht b.ht<=(bal a b).ht/\(bal a b).ht<=max a.ht b.ht+1/\(a.ht<=b.ht+1->b.ht<=a.ht+1->(bal a b).ht=max a.ht b.ht+1):=by
 by_cases g:b.ht+1 < a.ht
 · have c:bal a b=uP (balL a) b:=zBx g;rw [c];clear c;cases a with
   | lf d=>simp [ht] at g
   | nd e d=>
     obtain ⟨i,j,p,q⟩:=n;simp only [ht] at k l g;by_cases f:e.ht < d.ht
     · cases d with
       | lf v=>simp [ht] at f
       | nd b1 b2=>
         have c:balL (nd e (nd b1 b2))=nd (nd e b1) b2:=(by simp only [balL];rw [zBx f];rfl);rw [c];obtain ⟨r,s,w,x⟩:=j;simp only [ht] at k l g f p q;simp only [uP,Avl,ht];refine ⟨⟨⟨i,r,by omega,by omega⟩,⟨s,o,by omega,by omega⟩,by omega,by omega⟩,by omega,by omega,by omega⟩
     · have c:balL (nd e d)=nd e d:=(by simp only [balL];rw [zBw f]);rw [c];simp only [uP,Avl,ht];refine ⟨⟨i,⟨j,o,by omega,by omega⟩,by omega,by omega⟩,by omega,by omega,by omega⟩
 · by_cases f:a.ht+1 < b.ht
   · have c:bal a b=uQ a (balR b):=(by unfold bal;rw [zBw g,zBx f]);rw [c];clear c;cases b with
     | lf d=>simp [ht] at f
     | nd e d=>
       obtain ⟨i,j,p,q⟩:=o;simp only [ht] at k l g f;by_cases m:d.ht < e.ht
       · cases e with
         | lf v=>simp [ht] at m
         | nd t u=>
           have c:balR (nd (nd t u) d)=nd t (nd u d):=(by simp only [balR];rw [zBx m];rfl);rw [c];obtain ⟨r,s,w,x⟩:=i;simp only [ht] at k l g f m p q;simp only [uQ,Avl,ht];refine ⟨⟨⟨n,r,by omega,by omega⟩,⟨s,j,by omega,by omega⟩,by omega,by omega⟩,by omega,by omega,by omega⟩
       · have c:balR (nd e d)=nd e d:=(by simp only [balR];rw [zBw m]);rw [c];simp only [uQ,Avl,ht];refine ⟨⟨⟨n,i,by omega,by omega⟩,j,by omega,by omega⟩,by omega,by omega,by omega⟩
   rw [bal_same a b oM oM];simp only [Avl,ht];exact ⟨⟨n,o,by omega,by omega⟩,by omega,by omega,fun _ _=>trivial⟩
def qL {α:Type} (a c:List α) {b:Nat} (e:α) (d:b<=a.length):aI (a++c) b e=aI a b e++c:=by
 unfold aI;rw [List.take_append_of_le_length d,List.drop_append_of_le_length d];simp
def qK {α:Type} (a c:List α) {b:Nat} (e:α) (d:a.length<=b):aI (a++c) b e=a++aI c (b - a.length) e:=by
 unfold aI;rw [List.take_append,List.drop_append,zAg d,List.drop_eq_nil_of_le d];simp
def aAI {α:Type} (a c:List α) {b:Nat} (d:b < a.length):aC (a++c) b=aC a b++c:=by
 unfold aC;rw [List.take_append_of_le_length oM,List.drop_append_of_le_length oM];simp
def aAH {α:Type} (a c:List α) {b:Nat} (d:a.length<=b):aC (a++c) b=a++aC c (b - a.length):=by
 unfold aC;rw [List.take_append,List.drop_append,zAg d,List.drop_eq_nil_of_le oM];simp;congr 1;omega
def ins_bits:∀(g:Tr) (b:Nat) (c:Bool),b<=g.bits.length->(g.ins b c).bits=aI g.bits b c
 | lf a,b,c,f=>by
   simp only [bits] at f;unfold ins;split
   · rename_i d
     split
     · rename_i j
       simp only [bits];have e:a=a.take 64++a.drop 64:=(zAu 64 a).symm;have i:(a.take 64).length=64:=by rw [zAj];omega
       conv=>rhs;rw [e,qK _ _ _ oM,i]
     · rename_i j
       simp only [bits];have e:a=a.take 64++a.drop 64:=(zAu 64 a).symm;have i:(a.take 64).length=64:=by rw [zAj];omega
       conv=>rhs;rw [e,qL _ _ _ oM]
   rfl
 | nd k l,b,c,f=>by
   simp only [bits,zAi] at f;unfold ins;split
   · rename_i d
     rw [qW,ins_bits k b c d,bits,qL _ _ _ d]
   · rename_i d
     rw [qW,ins_bits l _ c oM,bits,qK _ _ _ oM]
def jU:∀(e:Tr) (b:Nat) (c:Bool),b<=e.bits.length->e.Full->(e.ins b c).Full
 | lf f,b,c,d,a=>by
   simp only [bits,Full] at d a;unfold ins;split
   · rename_i g
     have l:(f.take 64).length=64:=(by rw [zAj];omega);have k:(f.drop 64).length=64:=(by rw [zAw];omega);split;simp only [Full];rw [bB _ _ oM];omega;simp only [Full];rw [bB _ _ oM];omega
   simp only [Full];rw [bB _ _ d];omega
 | nd i j,b,c,d,a=>by
   simp only [bits,zAi,Full] at d a;unfold ins;split
   · rename_i g
     rw [qV];exact ⟨jU i b c g a.1,a.2⟩
   rw [qV];exact ⟨a.1,jU j _ c oM a.2⟩
def ins_avl:∀(c:Tr) (a:Nat) (b:Bool),c.Avl->(c.ins a b).Avl/\c.ht<=(c.ins a b).ht/\(c.ins a b).ht<=c.ht+1
 | lf o,a,b,e=>by
   unfold ins;split
   · split <;> simp [Avl,ht]
   · simp [Avl,ht]
 | nd d g,a,b,e=>by
   simp only [Avl] at e;obtain ⟨i,j,p,q⟩:=e;unfold ins;split
   · obtain ⟨f,m,n⟩:=ins_avl d a b i;obtain ⟨b1,b2,k,l⟩:=vT (d.ins a b) g f j oM oM;refine ⟨b1,?_,?_⟩<;> simp only [ht] <;> omega
   · obtain ⟨f,m,n⟩:=ins_avl g (a - d.bits.length) b j;obtain ⟨b1,b2,k,l⟩:=vT d (g.ins (a - d.bits.length) b) i f oM oM;refine ⟨b1,?_,?_⟩<;> simp only [ht] <;> omega
def ins_ok (c:Tr) (a:Nat) (d:Bool) (g:a<=c.bits.length) (f:c.Ok):(c.ins a d).Ok:=by
 cases c with
 | lf e=>
   simp only [Ok,bits] at f g;unfold ins;split
   · have p:(e.take 64).length=64:=(by rw [zAj];omega);have o:(e.drop 64).length=64:=(by rw [zAw];omega);split
     · simp only [Ok,Avl,Full,ht];rw [bB _ _ oM];refine ⟨⟨trivial,trivial,by omega,by omega⟩,by omega,by omega⟩
     · simp only [Ok,Avl,Full,ht];rw [bB _ _ oM];refine ⟨⟨trivial,trivial,by omega,by omega⟩,by omega,by omega⟩
   simp only [Ok];rw [bB _ _ g];omega
 | nd i j=>
   have b:=(ins_avl (nd i j) a d f.1);have k:=jU (nd i j) a d g f.2;cases l:(nd i j).ins a d with
   | lf e=>
     rw [l] at b;simp [ht] at b
   | nd m n=>
     rw [l] at b k;exact ⟨b.1,k⟩
def Near (b:Tr):Prop:=b.Full∨∃a,b=lf a/\a.length=31
def mend_bits (a b:Tr):(mend a b).bits=a.bits++b.bits:=by
 unfold mend;split
 · split
   · split <;> simp [bits]
   · simp [bits]
 · split
   · split <;> simp [bits];rw [<-zCl,zAu,zCl]
   · simp [bits]
 · split
   · split <;> simp [bits]
   · simp [bits]
 rfl
def qG {a:List Bool} (b:Near (lf a)):31<=a.length/\a.length<=128:=by
 rcases b with b |⟨d,c,e⟩;simp only [Full] at b;omega;injection c with c;subst c;omega
def uX {b c:Tr} (a:Near (nd b c)):(nd b c).Full:=by
 rcases a with a |⟨e,d,_⟩;exact a
 · cases d
def pF {t:Tr} (b:t.ht=0):∃a,t=lf a:=by
 cases t with
 | lf a=>exact ⟨a,rfl⟩
 | nd c d=>simp [ht] at b
def qA (b a:Tr) (B:b.Avl) (D:a.Avl) (q:Near b) (j:Near a) (F:b.Full∨a.Full) (z:b.ht<=a.ht+2) (A:a.ht<=b.ht+2) (v:¬b.Full->a.ht<=1) (w:¬a.Full->b.ht<=1):
 (rebal (mend b a)).Avl/\(rebal (mend b a)).Full/\max b.ht a.ht<=(rebal (mend b a)).ht/\(rebal (mend b a)).ht<=max b.ht a.ht+1/\(b.Full->a.Full->b.ht<=a.ht+1->a.ht<=b.ht+1->(rebal (mend b a)).ht=max b.ht a.ht+1):=by
 have k:mend b a=nd b a->b.Full->a.Full->(rebal (mend b a)).Avl/\(rebal (mend b a)).Full/\max b.ht a.ht<=(rebal (mend b a)).ht/\(rebal (mend b a)).ht<=max b.ht a.ht+1/\(b.Full->a.Full->b.ht<=a.ht+1->a.ht<=b.ht+1->(rebal (mend b a)).ht=max b.ht a.ht+1):=fun e x y=>by rw [e];obtain ⟨b1,b2,s,u⟩:=vT b a B D z A;exact ⟨b1,(qV b a).2 ⟨x,y⟩,b2,s,fun _ _=>u⟩
 cases b with
 | lf d=>
   have L:=qG q;cases a with
   | lf c=>
     have H:=qG j;by_cases f:d.length < 32∨c.length < 32
     · have K:63<=d.length+c.length:=(by simp only [Full] at F;omega);by_cases i:d.length+c.length<=128
       · have e:mend (lf d) (lf c)=lf (d++c):=(by simp only [mend];rw [zBx f,zBx i]);rw [e];simp only [rebal,Avl,Full,ht,zAi];refine ⟨trivial,by omega,by omega,by omega,fun _ _=>by omega⟩
       · have e:mend (lf d) (lf c)=nd (lf ((d++c).take ((d.length+c.length)/ 2))) (lf ((d++c).drop ((d.length+c.length)/ 2))):=(by simp only [mend];rw [zBx f,zBw i]);rw [e];simp only [rebal];rw [bal_same _ _ (by simp [ht]) (by simp [ht])];simp only [Avl,Full,ht,zAj,zAw,zAi];refine ⟨⟨trivial,trivial,by omega,by omega⟩,⟨by omega,by omega⟩,by omega,by omega,fun _ _ _ _=>by omega⟩
     refine k (by simp only [mend];rw [zBw f]) ?_ ?_;simp only [Full];omega;simp only [Full];omega
   | nd l r=>
     have p:=uX j;by_cases f:d.length < 32
     · have E:=v (by simp only [Full];omega);simp only [ht] at E;obtain ⟨c,rfl⟩:=pF (t:=l) oM;obtain ⟨g,rfl⟩:=pF (t:=r) oM;simp only [Full] at p;by_cases i:d.length+c.length<=128
       · have e:mend (lf d) (nd (lf c) (lf g))=nd (lf (d++c)) (lf g):=(by simp only [mend];rw [zBx f,zBx i]);rw [e];simp only [rebal];rw [bal_same _ _ (by simp [ht]) (by simp [ht])];simp only [Avl,Full,ht,zAi];refine ⟨⟨trivial,trivial,by omega,by omega⟩,⟨by omega,by omega⟩,by omega,by omega,fun n _=>by omega⟩
       · have e:mend (lf d) (nd (lf c) (lf g))=nd (lf ((d++c).take ((d.length+c.length)/ 2))) (nd (lf ((d++c).drop ((d.length+c.length)/ 2))) (lf g)):=(by simp only [mend];rw [zBx f,zBw i]);rw [e];simp only [rebal];rw [bal_same _ _ (by simp [ht]) (by simp [ht])];simp only [Avl,Full,ht,zAj,zAw,zAi];refine ⟨⟨trivial,⟨trivial,trivial,by omega,by omega⟩,by omega,by omega⟩,⟨by omega,by omega,by omega⟩,by omega,by omega,fun n _=>by omega⟩
     · refine k ?_ (by simp only [Full];omega) p;cases l with
       | lf c=>simp only [mend];rw [zBw f]
       | nd I J=>rfl
 | nd G o=>
   have m:=uX q;cases a with
   | lf c=>
     have H:=qG j;by_cases f:c.length < 32
     · have C:=w (by simp only [Full];omega);simp only [ht] at C;obtain ⟨g,rfl⟩:=pF (t:=G) oM;obtain ⟨d,rfl⟩:=pF (t:=o) oM;simp only [Full] at m;by_cases i:d.length+c.length<=128
       · have e:mend (nd (lf g) (lf d)) (lf c)=nd (lf g) (lf (d++c)):=(by simp only [mend];rw [zBx f,zBx i]);rw [e];simp only [rebal];rw [bal_same _ _ (by simp [ht]) (by simp [ht])];simp only [Avl,Full,ht,zAi];refine ⟨⟨trivial,trivial,by omega,by omega⟩,⟨by omega,by omega⟩,by omega,by omega,fun _ n=>by omega⟩
       · have e:mend (nd (lf g) (lf d)) (lf c)=nd (nd (lf g) (lf ((d++c).take ((d.length+c.length)/ 2)))) (lf ((d++c).drop ((d.length+c.length)/ 2))):=(by simp only [mend];rw [zBx f,zBw i]);rw [e];simp only [rebal];rw [bal_same _ _ (by simp [ht]) (by simp [ht])];simp only [Avl,Full,ht,zAj,zAw,zAi];refine ⟨⟨⟨trivial,trivial,by omega,by omega⟩,trivial,by omega,by omega⟩,⟨⟨by omega,by omega⟩,by omega⟩,by omega,by omega,fun _ n=>by omega⟩
     · refine k ?_ m (by simp only [Full];omega);cases o with
       | lf d=>simp only [mend];rw [zBw f]
       | nd I J=>rfl
   | nd l r=>
     refine k ?_ m (uX j);cases o <;> cases l <;> rfl
def aAk (a:Tr):(rebal a).bits=a.bits:=by
 cases a with
 | lf b=>rfl
 | nd c d=>simp only [rebal,qW,bits]
def drp_bits:∀(c:Tr) (a:Nat),a < c.bits.length->(c.drp a).bits=aC c.bits a
 | lf g,a,d=>rfl
 | nd e f,a,d=>by
   simp only [bits,zAi] at d;unfold drp;rw [aAk];split
   · rename_i b
     rw [mend_bits,drp_bits e a b,bits,aAI _ _ b]
   · rename_i b
     rw [mend_bits,drp_bits f _ oM,bits,aAH _ _ oM]
def drp_spec:∀(c:Tr) (a:Nat),a < c.bits.length->c.Avl->c.Full->(c.drp a).Avl/\Near (c.drp a)/\(¬(c.drp a).Full->c.ht=0)/\(c.drp a).ht<=c.ht/\c.ht<=(c.drp a).ht+1
 | lf n,a,m,_,o=>by simp only [bits,Full] at m o;have D:=bF n m;refine ⟨trivial,?_,fun _=>rfl,zAs _,by simp [ht]⟩;by_cases f:n.length=32;exact .inr ⟨aC n a,rfl,by omega⟩;refine .inl ?_;simp only [drp,Full];omega
 | nd b e,a,m,w,o=>by
   simp only [bits,zAi] at m;obtain ⟨t,u,B,C⟩:=w;obtain ⟨i,j⟩:=o;unfold drp;split
   · rename_i v
     obtain ⟨p,q,k,x,y⟩:=drp_spec b a v t i;obtain ⟨r,l,z,A,s⟩:=qA (b.drp a) e p u q (.inl j) (.inr j) oM oM (fun d=>by have:=k d;omega) (fun d=>absurd j d);refine ⟨r,.inl l,fun d=>absurd l d,by simp only [ht];omega,?_⟩;simp only [ht];by_cases f:(b.drp a).Full;by_cases g:(b.drp a).ht<=e.ht+1/\e.ht<=(b.drp a).ht+1;have:=s f j g.1 g.2;omega;omega;have:=k f;omega
   · rename_i v
     obtain ⟨p,q,k,x,y⟩:=drp_spec e (a - b.bits.length) oM u j;obtain ⟨r,l,z,A,s⟩:=qA b (e.drp (a - b.bits.length)) t p (.inl i) q (.inl i) oM oM (fun d=>absurd i d) (fun d=>by have:=k d;omega);refine ⟨r,.inl l,fun d=>absurd l d,by simp only [ht];omega,?_⟩;simp only [ht];by_cases f:(e.drp (a - b.bits.length)).Full;by_cases g:b.ht<=(e.drp (a - b.bits.length)).ht+1/\(e.drp (a - b.bits.length)).ht<=b.ht+1;have:=s i f g.1 g.2;omega;omega;have:=k f;omega
def aEi {a:Tr} (c:a.Avl) (b:a.Full):a.Ok:=by
 cases a with
 | lf d=>
   simp only [Full] at b;simp only [Ok];omega
 | nd e f=>exact ⟨c,b⟩
def drp_ok (a:Tr) (b:Nat) (d:b < a.bits.length) (c:a.Ok) (j:a.bits.length≠1):(a.drp b).Ok:=by
 cases a with
 | lf i=>
   simp only [Ok,bits] at c d j;have:=bF i d;simp only [drp,Ok];omega
 | nd f g=>
   have:=drp_spec (nd f g) b d c.1 c.2;by_cases e:((nd f g).drp b).Full;exact aEi this.1 e
   · have:=this.2.2.1 e;simp [ht] at this
def lv_pos:∀b:Tr,1<=b.lv
 | lf _=>zAs _
 | nd a c=>by have:=lv_pos a;simp only [lv];omega
end Tr
end
section
open Go.RowKit
namespace Tr
def Le:Tr->Prop
 | lf a=>a.length<=128
 | nd b c=>b.Le/\c.Le
def Full.le:∀ {b:Tr},b.Full->b.Le
 | lf c,a=>a.2
 | nd d e,a=>⟨Full.le a.1,Full.le a.2⟩
def Near.le {b:Tr} (a:Near b):b.Le:=by
 rcases a with a |⟨c,rfl,a⟩;exact a.le;simp only [Le];omega
def Ok.le {a:Tr} (b:a.Ok):a.Le:=by
 cases a with
 | lf c=>exact b.2
 | nd d e=>exact Full.le b.2
def Ok.avl {a:Tr} (b:a.Ok):a.Avl:=by
 cases a with
 | lf c=>trivial
 | nd d e=>exact b.1
def ht_lv:∀a:Tr,a.ht+1<=a.lv
 | lf d=>zAs _
 | nd b c=>by have e:=ht_lv b;have f:=ht_lv c;simp only [ht,lv];omega
end Tr
def gM (b c:Int) (a:Nat):List Value:= [.int .i64 (-1),.int .i64 (-1),.int .i64 0,.int .i64 b,.int .i64 c,.int .i64 0,.int .i64 0,.pointer (some a)]
def ndL (b g a e f c d:Int):List Value:= [.int .i64 b,.int .i64 g,.int .i64 a,.int .i64 e,.int .i64 f,.int .i64 c,.int .i64 d,.pointer none]
def At8 (d:List Value) (c:Nat) (b:List Value):Prop:=b.length=8/\∀a,a < 8->d[c*8+a]?=b[a]?
def At8.get {d:List Value} {c:Nat} {b:List Value} (e:At8 d c b) (a:Nat) (f:a < 8):d[c*8+a]?=b[a]?:=e.2 a f
def At8.lt {f:List Value} {d e:Nat} {a:List Value} (b:At8 f d a) (j:f.length=e*8):d < e:=by
 have c:=b.2 7 oM;have g:7 < a.length:=by rw [b.1];omega
 rw [zAa g] at c;obtain ⟨i,_⟩:=zAc.1 c;omega
def At8.set {i:List Value} {e:Nat} {a:List Value} (c:At8 i e a) {j:Nat} (n:j < 8) (g:Value):At8 (i.set (e*8+j) g) e (a.set j g):=by
 refine ⟨by rw [zAt];exact c.1,fun d m=>?_⟩;have b:=c.2 d m;by_cases k:d=j
 · subst k;have f:d < a.length:=(by rw [c.1];omega);rw [zAa f] at b;obtain ⟨l,_⟩:=zAc.1 b;rw [List.getElem?_set_self l,List.getElem?_set_self f]
 rw [List.getElem?_set_ne oM,List.getElem?_set_ne oM];exact b
def At8.set_ne {e:List Value} {d a:Nat} {b:List Value} (c:At8 e a b) (l:a≠d) {j:Nat} (k:j < 8) (i:Value):At8 (e.set (d*8+j) i) a b:=by
 refine ⟨c.1,fun g f=>?_⟩;rw [List.getElem?_set_ne oM];exact c.2 g f
def At8.app {g:List Value} {f:Nat} {b:List Value} (a:At8 g f b) (k:List Value):At8 (g++k) f b:=by
 refine ⟨a.1,fun c e=>?_⟩;have d:=a.2 c e;have i:c < b.length:=by rw [a.1];omega
 rw [zAa i] at d;obtain ⟨j,_⟩:=zAc.1 d;rw [zAn j];exact a.2 c e
def At8.new {c:List Value} {b:Nat} {a:List Value} (e:c.length=b*8) (d:a.length=8):At8 (c++a) b a:=by
 refine ⟨d,fun g f=>?_⟩;rw [zAo oM,e,Nat.add_sub_cancel_left]
def At8.ex {m:List Value} {c n:Nat} (z:m.length=n*8) (y:c < n):∃d e f g i j k l,At8 m c [d,e,f,g,i,j,k,l]:=by
 have a:∀b,b < 8->∃x,m[c*8+b]?=some x:=fun b w=>⟨_,zAa oM⟩;obtain ⟨d,o⟩:=a 0 oM;obtain ⟨e,p⟩:=a 1 oM;obtain ⟨f,q⟩:=a 2 oM;obtain ⟨g,r⟩:=a 3 oM;obtain ⟨i,s⟩:=a 4 oM;obtain ⟨j,t⟩:=a 5 oM;obtain ⟨k,u⟩:=a 6 oM;obtain ⟨l,v⟩:=a 7 oM;refine ⟨d,e,f,g,i,j,k,l,rfl,fun b w=>?_⟩;rcases b with _ | _ | _ | _ | _ | _ | _ | _ | b;exact o;exact p;exact q;exact r;exact s;exact t;exact u;exact v;omega
def But8 (c:Nat) (d e:List Value):Prop:=∀a b,a≠c->At8 d a b->At8 e a b
def But8.refl (c:Nat) (a:List Value):But8 c a a:=fun _ _ _ b=>b
def But8.trans {a:Nat} {e f g:List Value} (k:But8 a e f) (j:But8 a f g):But8 a e g:=fun d b c i=>j d b c (k d b c i)
def But8.set (a:Nat) (c:List Value) {j:Nat} (e:j < 8) (b:Value):But8 a c (c.set (a*8+j) b):=fun i g f d=>d.set_ne f e b
inductive LT where
 | lf (k g:Nat) (b:List Bool)
 | nd (k:Nat) (l r:LT)
namespace LT
def num:LT->Nat
 | lf a _ _=>a
 | nd a _ _=>a
def er:LT->Tr
 | lf _ _ a=>.lf a
 | nd _ b c=>.nd b.er c.er
def nums:LT->List Nat
 | lf a _ _=> [a]
 | nd a b c=>a::(b.nums++c.nums)
def blks:LT->List Nat
 | lf _ a _=> [a]
 | nd _ b c=>b.blks++c.blks
abbrev bits (a:LT):List Bool:=a.er.bits
abbrev len (a:LT):Nat:=a.er.bits.length
abbrev on (a:LT):Nat:=a.er.bits.count true
abbrev ht (a:LT):Nat:=a.er.ht
def cells:LT->List Value
 | lf _ g c=>gM (c.length:Int) ((c.count true:Nat):Int) g
 | nd _ a b=>ndL (a.num:Int) (b.num:Int) ((max a.ht b.ht+1:Nat):Int) ((a.len+b.len:Nat):Int) ((a.on+b.on:Nat):Int) (a.len:Int) (a.on:Int)
def In (c:World) (b:List Value):LT->Prop
 | lf a e d=>At8 b a (cells (lf a e d))/\Bk c e 240 (cC d)
 | nd a f g=>At8 b a (cells (nd a f g))/\In c b f/\In c b g
def In.at {e:World} {c:List Value} {a:LT} (b:a.In e c):At8 c a.num a.cells:=by
 cases a with
 | lf d g f=>exact b.1
 | nd d i j=>exact b.1
def num_mem (a:LT):a.num∈a.nums:=by
 cases a <;> simp [num,nums]
def In.keep {l w':World} {m n:List Value}:∀ {g:LT},g.In l m->(∀b,b∈g.nums->∀d,At8 m b d->At8 n b d)->(∀a,a∈g.blks->∀d,Bk l a 240 d->Bk w' a 240 d)->g.In w' n
 | lf k a o,c,e,f=>⟨e k (by simp [nums]) _ c.1,f a (by simp [blks]) _ c.2⟩
 | nd k p q,c,e,f=>⟨e k (by simp [nums]) _ c.1,In.keep c.2.1 (fun b j=>e b (by simp [nums,j])) (fun a i=>f a (by simp [blks,i])),In.keep c.2.2 (fun b j=>e b (by simp [nums,j])) (fun a i=>f a (by simp [blks,i]))⟩
def In.blk {f:World} {j:List Value}:∀ {e:LT},e.In f j->∀c,c∈e.blks->∃g,Bk f c 240 g
 | lf i c k,b,d,a=>by simp only [blks,List.mem_singleton] at a;subst a;exact ⟨_,b.2⟩
 | nd i l m,b,d,a=>by simp only [blks,zCm] at a;rcases a with a | a;exact In.blk b.2.1 d a;exact In.blk b.2.2 d a
def len_nd (c:Nat) (a b:LT):(nd c a b).len=a.len+b.len:=by simp [len,er,Tr.bits]
def on_nd (c:Nat) (a b:LT):(nd c a b).on=a.on+b.on:=by simp [on,er,Tr.bits]
def on_le (a:LT):a.on<=a.len:=zBv
end LT
def oB (a b:Int) (e f g:Nat) (c d:Int) (i:Option Addr):List Value:= [.int .i64 a,.int .i64 b,.int .i64 (e:Int),.int .i64 (f:Int),.int .i64 (g:Int),.int .i64 c,.int .i64 d,.pointer i]
def LT.cel (b:LT):∃e f g i l,b.cells=oB e f b.ht b.len b.on g i l:=by
 cases b with
 | lf c n m=>exact ⟨_,_,_,_,_,rfl⟩
 | nd c a d=>
   have j:=LT.len_nd c a d;have k:=LT.on_nd c a d;exact ⟨a.num,d.num,a.len,a.on,none,by rw [j,k];rfl⟩
def jW (b:List Bool) (c a:Nat):Array Value:=((b.take a).map Value.bool++List.replicate (c - a) (Value.bool false)).toArray
def aAB (b:List Bool) (a:Nat):jW b a 0=Array.replicate a (Value.bool false):=by
 unfold jW;apply Array.ext';simp
def aBV (a:List Bool) (b:Nat) (c:a.length=b):jW a b b=(a.map Value.bool).toArray:=by
 unfold jW;rw [zAg oM,Nat.sub_self];simp
def aAC (b:List Bool) (a c:Nat) (d:b.length=a) (e:c<=a):(jW b a c).size=a:=by
 unfold jW;simp;omega
def aBU {b:List Bool} {c a:Nat} {e:Bool} (i:b.length=c) (d:b[a]?=some e):(jW b c a).setIfInBounds a (.bool e)=jW b c (a+1):=by
 have j:=(zAc.1 d).1;apply Array.ext';unfold jW;rw [Array.toList_setIfInBounds,zAv,d];have f:c - a=(c -(a+1))+1:=oM;rw [f,List.replicate_succ];have g:((b.take a).map Value.bool).length=a:=by rw [zBc,zAj];omega
 show List.set ((b.take a).map Value.bool++(Value.bool false::List.replicate (c -(a+1)) (Value.bool false))) a _=_;rw [List.set_append_right _ _ oM,g,Nat.sub_self,zAz,zCl];rfl
abbrev w1N (a:List Bool):Nat:=w1 a
def zQ (b:World) (a:List Bool) (e:Ending) (d:World):Prop:=∃c,e=.returned (.slice c a.length a.length)/\Made d b.heap.size 4 1 c a.length a.length (a.map Value.bool)/\Below b.heap.size b d
def eX (i:Nat) (d:List Bool) (b:World) (j:Bk b i 240 (cC d)) (z:d.length<=128):
 Calls prog 266 #[i] b (zQ b d):=by
 obtain ⟨c,k⟩:=eqx d.length;have N:b.cell? i=some (.int .i64 (c:Int)):=by rw [<-k];exact (j.cell 0).trans rfl
 have V:=j.lt;have P:=aBF c oM;obtain ⟨v,e,J⟩:=hqq3 j k z;rw [k] at z;clear j k;unfold zQ;go_enter func266,ntmps266;go_wp2_with fail;have x:Bk (b.alloc (.cells (Array.replicate c (.bool false)) 4)) b.heap.size 4 (jW d c 0):=by rw [aAB];exact Bk.new _ _ _
 have C:Below b.heap.size b (b.alloc (.cells (Array.replicate c (.bool false)) 4)):=bR.alloc nL _;go_loopw [14] (fun u wr=>∃a:Nat,a<=c/\u=.int .i64 (a:Int)/\Bk wr b.heap.size 4 (jW d c a)/\Below b.heap.size b wr) (fun u _=>c -(intOf u).toNat)
 case atStart=>exact ⟨0,zAp _,rfl,x,C⟩
 case round=>
  obtain ⟨a,U,rfl,w,s⟩:=hrel;clear x C P N;have Q:=s.size;obtain ⟨l,m⟩:=hqq2 w s;clear w s;by_cases q:a < c
  · obtain ⟨g,r⟩:∃g,d[a]?=some g:=⟨_,zAa (by rw [e.out];exact q)⟩;have y:d.getD a false=g:=(by rw [zAb,r];rfl);obtain ⟨L,I⟩:=hqq2 r y;clear r y;go_wp2_with fail;refine (nO i d a wr (v.out.below m.out v.out.lt) J.out (by rw [e.out];exact q)).mono ?_;rintro R G ⟨rfl,t⟩;rw [I.out];have f:=l.out.below t l.out.lt;have D:=m.out.trans (Below.mono t Q);have T:=f.lt;have S:=f.frozen a;have o:=f.set a (.bool g);rw [aBU e.out L.out] at o;have O:∃F,G.cell? ⟨b.heap.size,a,none⟩=some F:=⟨_,(f.cell a).trans (zAq (by rw [aAC d c a e.out oM];exact q))⟩;obtain ⟨F,W⟩:=O;have E:Below b.heap.size b (G.setCell ⟨b.heap.size,a,none⟩ (.bool g)):=D.setCell nL _;obtain ⟨H,M⟩:=hqq2 o E;clear f o t D E;go_wp2_with fail;go_roundw
    case rel=>exact ⟨a+1,by omega,by go_num,H.out,M.out⟩
    case measure=>simp [intOf];omega
  · obtain rfl:a=c:=oM;have p:=l.out;rw [aBV d a e.out] at p;have A:=aAv (B:=b.heap.size) (n:=a) p nL (by rw [zBc];exact e.out) (by unfold maxLen;omega);have K:=lhd A;clear p A;go_wp2_with fail;go_ret;exact ⟨_,by rw [e.out];rfl,by rw [e.out];exact K.out,m.out⟩
def jI (a:Nat) (m:Option Addr) (l v n:Nat) (k c:List Bool) (b:World) (o:Bk b a 240 (cC k)) (A:Rd b n 1 m l (c.map Value.bool)) (hB:n<=b.heap.size) (H:l<=128):
 Calls prog 267 #[a,.slice m l v] b fun w B=>w=.returned (.tuple #[])/\Bk B a 240 (cC c)/\Keep (fun d=>d=a) b B:=by
 obtain ⟨u,E⟩:=hqq2 o A;have S:=o.lt;clear o A;go_enter func267,ntmps267;go_wp2_with fail;refine (eA m l v n c b E.out hB H).mono ?_;rintro w w1 ⟨rfl,j,q⟩;have e:=u.out.below q u.out.lt;have T:a≠b.heap.size:=oM;obtain ⟨f,r⟩:∃f:Nat,c.length=f:=⟨_,rfl⟩;obtain ⟨g,s⟩:∃g:Nat,w0 c=g:=⟨_,rfl⟩;obtain ⟨i,t⟩:∃i:Nat,w1N c=i:=⟨_,rfl⟩;have I:w1.cell? b.heap.size=some (.int .i64 (f:Int)):=by rw [<-r];exact (j.cell 0).trans rfl
 have J:w1.cell? ⟨b.heap.size,1,none⟩=some (.int .u64 (g:Int)):=by rw [<-s];exact (j.cell 1).trans rfl
 have K:w1.cell? ⟨b.heap.size,2,none⟩=some (.int .u64 (i:Int)):=by rw [<-t];exact (j.cell 2).trans rfl
 have L:w1.cell? a=some (.int .i64 (k.length:Int)):=(e.cell 0).trans rfl;have M:w1.cell? ⟨a,1,none⟩=some (.int .u64 ((w0 k:Nat):Int)):=(e.cell 1).trans rfl;have N:w1.cell? ⟨a,2,none⟩=some (.int .u64 ((w1N k:Nat):Int)):=(e.cell 2).trans rfl;have O:=e.frozen 0;have P:=e.frozen 1;have Q:=e.frozen 2;have R:=e.lt;have U:=j.lt;have y:=((e.set 0 (.int .i64 (f:Int))).set 1 (.int .u64 (g:Int))).set 2 (.int .u64 (i:Int));have z:Keep (fun d=>d=a) b (((w1.setCell a (.int .i64 (f:Int))).setCell ⟨a,1,none⟩ (.int .u64 (g:Int))).setCell ⟨a,2,none⟩ (.int .u64 (i:Int))):=
  Keep.setCell (F:=fun d=>d=a) (Keep.setCell (F:=fun d=>d=a) (Keep.setCell (F:=fun d=>d=a) (Keep.of_below q) (p:=a) (.inl rfl) _) (p:=⟨a,1,none⟩) (.inl rfl) _) (p:=⟨a,2,none⟩) (.inl rfl) _
 have x:cC c=#[Value.int .i64 (f:Int),.int .u64 (g:Int),.int .u64 (i:Int)]:=by show #[Value.int .i64 (c.length:Int),Value.int .u64 ((w0 c:Nat):Int),Value.int .u64 ((w1N c:Nat):Int)]=_;rw [r,s,t]
 obtain ⟨D,G,C⟩:=hqq3 y z x;clear q e j y z x r s t;go_wp2_with fail;refine bodyPost_end (results_none rfl _ _ _) rfl ?_;rw [C.out];exact ⟨rfl,D.out,G.out⟩
def rX (a:Nat) (c:List Bool) (d:World) (p:Bk d a 240 (cC c)) (G:c.length=128):
 Calls prog 233 #[a] d fun e y=>∃f,e=.returned (.pointer (some ⟨f,0,none⟩))/\d.heap.size<=f/\Bk y f 240 (cC (c.drop 64))/\Bk y a 240 (cC (c.take 64))/\Keep (fun i=>i=a) d y:=by
 have V:=p.lt;obtain ⟨l,o⟩:=hqq2 p G;clear p G;go_enter func233,ntmps233;go_wp2_with fail;refine (eX a c d l.out (by rw [o.out];omega)).mono ?_;rintro e w1 ⟨z,rfl,u,q⟩;rw [o.out] at u⊢;have j:=l.out.below q l.out.lt;have C:w1.cell? a=some (.int .i64 128):=by have:=(j.cell 0).trans (b:=some (Value.int .i64 (c.length:Int))) rfl;rw [o.out] at this;exact this
 have R:=j.lt;have X:=lQ (P:=prog) 138 4 1 underlying138 Tryz.sizeOf4 z 128 128 64 oM;have Y:=pU (P:=prog) 138 4 1 underlying138 Tryz.sizeOf4 z 128 128 64 oM;obtain ⟨B,m,A⟩:=hqq3 u q j;clear u q j;go_wp2_with fail;have w:=B.out.rd.cut (k:=64) (cap:=128) oM oM;rw [zBl,<-List.map_drop] at w;refine (eA _ 64 64 _ (c.drop 64) w1 w nL oM).mono ?_;rintro e J ⟨rfl,v,g⟩;obtain ⟨f,s⟩:=eqx w1.heap.size;rw [s] at v;have r:=A.out.below g A.out.lt;have U:J.cell? a=some (.int .i64 128):=(g.cell (by exact R)).trans C;have W:=r.lt;have x:=(((B.out.rd.cut_hi (k:=64) oM).below g).mono g.size);rw [zBl,<-List.map_take] at x;obtain ⟨N,L,M,O,n⟩:=hqq5 v g r x s;clear v g r C w x s;go_wp2_with fail;refine (jI a _ 64 _ _ c (c.take 64) J M.out O.out nL oM).mono ?_;rintro e T ⟨rfl,D,t⟩;have S:f≠a:=by have:=n.out;omega
 have H:=t.bk N.out (fun e=>S e);have F:Keep (fun i=>i=a) d T:=(Keep.of_below (m.out.trans (Below.mono L.out m.out.size))).trans t;have E:d.heap.size<=f:=by have:=n.out;have:=m.out.size;omega
 obtain ⟨K,N3,Q⟩:=hqq3 D H F;clear D H t F;go_wp2_with fail;go_ret;have I:=N3.out;rw [<-n.out] at I E;exact ⟨_,rfl,E,I,K.out,Q.out⟩
def lI (c:List Bool):∀a∈c.map Value.bool,a.oneCell'=true:=fun a b=>by
 obtain ⟨d,_,rfl⟩:=zAy.1 b;rfl
def aDx:(prog.info? 240).map (·.size)=some 3:=by kernel_rfl
def aDy {b c:Nat} {d e:Array Value} {a:World} (g:Bk a b 240 d) (l:Bk a c 240 e) (k:c≠b):
 (binOp .eql 214 (.pointer (some c)) (.pointer (some b))).run prog a=.ok (.bool false) a:=by
 obtain ⟨m,i,j⟩:=Option.map_eq_some_iff.1 aDx;exact run_eql_ptr_other a underlying214 i (by rw [j];decide) (fun f=>k (by injection f)) l g
def sX (c d:Nat) (i j:List Bool) (e:World) (g:Bk e c 240 (cC i)) (m:Bk e d 240 (cC j)) (z:d≠c) (O:i.length+j.length<=128):
 Calls prog 295 #[c,d] e fun b V=>b=.returned (.int .i64 0)/\Bk V c 240 (cC (i++j))/\Keep (fun a=>a=c∨a=d) e V:=by
 obtain ⟨ap,aj,am,an,ao⟩:=info_parts iO;obtain ⟨f,p⟩:=eqx i.length;obtain ⟨a,r⟩:=eqx j.length;have ai:=aDy g m z;have ae:e.cell? c=some (.int .i64 (f:Int)):=by rw [<-p];exact (g.cell 0).trans rfl
 have ag:e.cell? d=some (.int .i64 (a:Int)):=by rw [<-r];exact (m.cell 0).trans rfl
 rw [p,r] at O;have aw:decide ((f:Int)+a > 128)=false:=zBy oM;have ax:=g.lt;have ay:=m.lt;obtain ⟨a0,ab,E,C⟩:=hqq4 g m p r;clear g m p r;go_enter func295,ntmps295;go_wp2_with fail;clear ai;go_quiet (fail);go_wp2_with fail;have q:=a0.out.drewN nq;have A:=ab.out.drewN nq;have x:Keep (fun a=>a=c∨a=d) e (e.drewN nq):=(Keep.refl _ _).drewN nq;generalize e.drewN nq=W at*
 refine (eX c i W q (by rw [E.out];omega)).mono ?_;rintro b w1 ⟨B,rfl,P,l⟩;have al:=x.size;have az:=l.size;obtain ⟨F,t,a4,I⟩:=hqq4 (q.below l q.lt) (A.below l A.lt) (x.trans (Keep.of_below l)) P;clear q A x P l ae ag;go_wp2_with fail;refine (eX d j w1 t.out (by rw [C.out];omega)).mono ?_;rintro b aC ⟨av,rfl,y,k⟩;rw [E.out] at I⊢;rw [C.out] at y⊢;obtain ⟨H,K,a5,n,a9⟩:=hqq5 (F.out.below k F.out.lt) (t.out.below k t.out.lt) (a4.out.trans (Keep.of_below k)) (I.out.below k) y;have T:=n.out.own;have aA:=k.size;have J:∀o,(Value.slice B f f).ownBlock=some o->o≠c/\o≠d:=fun o b=>⟨fun u=>absurd (by have:=aR n.out.own H.out dC;rw [b,u] at this;exact this rfl) id,fun u=>absurd (by have:=aR n.out.own K.out dC;rw [b,u] at this;exact this rfl) id⟩;obtain ⟨D,Z⟩:=hqq2 J (fun a g=>(T.lt a g).1);clear y k T J
 rename_i U
 refine U _ _ ?_;refine bG _ rfl (.tmp 29) (.tmp 31) _ rfl W.heap.size 4 ap (.bool false) 1 1 underlying138 aj am an ao rfl dC (.slice B f f) f _ rfl n.out.own _ _ _ _ _ rfl a9.out.rd (lI _) (by unfold maxLen;omega) oM oM ?_;intro aB X S s ah;obtain ⟨Y,af,rfl,Q⟩:=bE S;have L:=H.out.grown s (fun b=>(D.out c b.symm).1 rfl);have R:=K.out.grown s (fun b=>(D.out d b.symm).2 rfl);have N:Keep (fun a=>a=c∨a=d) e X:=a5.out.grown s (fun aq ak=>.inr (zAk al (Z.out aq ak)));obtain ⟨aa,a1,ac,a6⟩:=hqq4 Q L R N;clear S s ah Q L R N U;go_wp2_with fail;refine (jI c Y (f+a) af _ i (i++j) X a1.out (by rw [zAz];exact aa.out.rd) nL O).mono ?_;rintro b ar ⟨rfl,M,v⟩;obtain ⟨a2,ad⟩:=hqq2 M (v.bk ac.out (fun b=>z b));have a7:=lhd (a6.out.trans (v.mono (G:=fun a=>a=c∨a=d) fun au _ b=>.inl b));clear M v;go_wp2_with fail;refine (jI d none 0 0 0 j [] ar ad.out (Rd.nil _ _ _ _) (zAp _) oM).mono ?_;rintro b aD ⟨rfl,_,w⟩;have a3:=lhd (w.bk a2.out (fun b=>z (show c=d from b).symm));have a8:=lhd (a7.out.trans (w.mono (G:=fun a=>a=c∨a=d) fun au _ b=>.inr b));clear w;go_wp2_with fail;go_ret;exact ⟨rfl,a3.out,a8.out⟩
def wY (b c:Nat) (i j:List Bool) (a:World) (e:Bk a b 240 (cC i)) (g:Bk a c 240 (cC j)) (r:c≠b) (q:128 < i.length+j.length) (n:i.length<=128) (o:j.length<=128):
 Calls prog 295 #[b,c] a fun m s=>m=.returned (.int .i64 3)/\Below a.heap.size a s:=by
 obtain ⟨k,d⟩:=eqx i.length;obtain ⟨l,f⟩:=eqx j.length;have p:=aDy e g r;have t:a.cell? b=some (.int .i64 (k:Int)):=by rw [<-d];exact (e.cell 0).trans rfl
 have u:a.cell? c=some (.int .i64 (l:Int)):=by rw [<-f];exact (g.cell 0).trans rfl
 rw [d,f] at q;rw [d] at n;rw [f] at o;have v:decide ((k:Int)+l > 128)=true:=zBz oM;have w:=e.lt;have x:=g.lt;clear e g d f;go_enter func295,ntmps295;go_wp2_with fail;clear p;go_quiet (fail);go_wp2_with fail;go_ret;exact ⟨rfl,below_drewN bR _⟩
end
section
def mJ (b a:Nat) (c:Bool):Nat:=(b % 2 ^ a|||(if c then 2 ^ a else 0))|||(b&&&(18446744073709551615 - b % 2 ^ a))*2 % 18446744073709551616
def jX (a b:Nat) (c:Bool):Nat:=(a % 2 ^ b|||(a / 2&&&(18446744073709551615 - a / 2 % 2 ^ b)))|||(if c then 9223372036854775808 else 0)
def aBc (b a:Nat) (c:b < 18446744073709551616):(18446744073709551615 - b).testBit a=(decide (a < 64)&& !b.testBit a):=by
 have:=Nat.testBit_two_pow_sub_succ (n:=64) (x:=b) oM a;rw [<-this];congr 1;omega
def aDb (c b a:Nat):(c % 2 ^ b).testBit a=(decide (a < b)&&c.testBit a):=Nat.testBit_mod_two_pow _ _ _
def aA9 (b a:Nat):(2 ^ b).testBit a=decide (b=a):=Nat.testBit_two_pow
def aEn (b a:Nat):(b*2 % 18446744073709551616).testBit a=(decide (a < 64)&&(decide (0 < a)&&b.testBit (a - 1))):=by
 have c:(18446744073709551616:Nat)=2 ^ 64:=dC;rw [c,aDb];congr 1;rcases a with _ | a
 · simp
 · rw [Nat.testBit_succ,Nat.mul_div_cancel _ (by decide:0 < 2)];simp
def qH (a c:Nat) (b:a < 18446744073709551616):a % 2 ^ c < 18446744073709551616:=Nat.lt_of_le_of_lt (Nat.mod_le _ _) b
def aE1 (b a:Nat) (d:b < 18446744073709551616) (c:64<=a):b.testBit a=false:=Nat.testBit_lt_two_pow (zAl d (zBp (n:=2) dC c))
def uS (c b a:Nat) (d:Bool) (o:c < 18446744073709551616) (q:b < 64):(mJ c b d).testBit a=if a < b then c.testBit a else if a=b then d else (decide (a < 64)&&c.testBit (a - 1)):=by
 unfold mJ;rw [Nat.testBit_or,Nat.testBit_or,aEn,Nat.testBit_and,aBc _ _ (qH c b o),aDb,aDb];have n:(if d then 2 ^ b else 0:Nat).testBit a=(decide (b=a)&&d):=by
  cases d
  · simp
  · simp [aA9]
 rw [n];by_cases f:a < b
 · have e:decide (a - 1 < b)=true:=zBz oM;have g:decide (b=a)=false:=zBy oM;rw [zBx f,zBz f,e,g];cases r:c.testBit a <;> cases p:c.testBit (a - 1)<;> simp
 · rw [zBw f,zBy f];by_cases i:a=b
   · subst i;rw [zBx rfl];by_cases j:a=0
     · subst j;simp
     · have e:decide (a - 1 < a)=true:=zBz oM;rw [e];cases p:c.testBit (a - 1)<;> simp
   · have e:decide (a - 1 < b)=false:=zBy oM;have g:decide (b=a)=false:=zBy oM;have k:decide (0 < a)=true:=zBz oM;rw [zBw i,e,g,k];by_cases l:a < 64
     · have m:decide (a - 1 < 64)=true:=zBz oM;rw [m];simp
     · simp [l]
def vH (b d a:Nat) (c:Bool) (j:b < 18446744073709551616) (o:d < 64):(jX b d c).testBit a=if a < d then b.testBit a else if a < 63 then b.testBit (a+1) else (decide (a=63)&&c):=by
 unfold jX;have m:b / 2 < 18446744073709551616:=Nat.lt_of_le_of_lt (Nat.div_le_self _ _) j;have n:∀g,(b / 2).testBit g=b.testBit (g+1):=fun g=>by rw [Nat.testBit_succ]
 rw [Nat.testBit_or,Nat.testBit_or,Nat.testBit_and,aBc _ _ (qH _ d m),aDb,aDb,n];have l:(if c then 9223372036854775808 else 0:Nat).testBit a=(decide (a=63)&&c):=by
  cases c
  · simp
  rw [zBx rfl,show (9223372036854775808:Nat)=2 ^ 63 by decide,aA9,Bool.and_true];congr 1;exact propext eq_comm
 rw [l];by_cases e:a < d
 · have f:decide (a=63)=false:=zBy oM;rw [zBx e,zBz e,f];cases p:b.testBit a <;> cases q:b.testBit (a+1)<;> simp
 · rw [zBw e,zBy e];by_cases i:a < 63
   · have f:decide (a=63)=false:=zBy oM;have k:decide (a < 64)=true:=zBz oM;rw [zBx i,f,k];simp
   · rw [zBw i,aE1 b (a+1) j oM];simp
def fW (b:List Bool) (a:Nat):(w0 b).testBit a=(decide (a < 64)&&b.getD a false):=by unfold w0;rw [gR,aBv]
def eV (b:List Bool) (a:Nat):(w1 b).testBit a=b.getD (64+a) false:=by unfold w1;rw [gR,aBZ]
def pG (b:List Bool) (a:Nat) (c:b.length<=a):b.getD a false=false:=by
 rw [zAb,zBg c];rfl
def aER (a:List Bool) (d:Nat) (e:Bool) (i:d<=a.length) (k:a.length<=127) (j:d < 64):w0 (aI a d e)=mJ (w0 a) d e/\w1 (aI a d e)=mJ (w1 a) 0 (a.getD 63 false):=by
 constructor
 · refine Nat.eq_of_testBit_eq fun b=>?_;rw [uS _ _ _ _ (jN a) j,fW,fW,fW,lA a e i];by_cases g:b < d
   · rw [zBx g,zBx g]
   · rw [zBw g,zBw g];by_cases c:b=d
     · rw [zBx c,zBx c,zBz oM,Bool.true_and]
     · rw [zBw c,zBw c];by_cases f:b < 64
       · rw [zBz f,zBz (show b - 1 < 64 by omega),Bool.true_and,Bool.true_and]
       · rw [zBy f,Bool.false_and,Bool.false_and]
 · refine Nat.eq_of_testBit_eq fun b=>?_;rw [uS _ _ _ _ (jK a oM) dC,eV,eV,lA a e i,zBw oM,zBw oM,zBw oM];by_cases c:b=0
   · subst c;rw [zBx rfl]
   · rw [zBw c,show 64+b - 1=64+(b - 1) by omega,eV];by_cases f:b < 64
     · rw [zBz f,Bool.true_and]
     rw [zBy f,Bool.false_and];exact pG a _ oM
def aES (a:List Bool) (c:Nat) (d:Bool) (i:c<=a.length) (k:a.length<=127) (j:64<=c):w0 (aI a c d)=w0 a/\w1 (aI a c d)=mJ (w1 a) (c - 64) d:=by
 constructor
 · refine Nat.eq_of_testBit_eq fun b=>?_;rw [fW,fW,lA a d i];by_cases e:b < 64
   · rw [zBz e,zBx oM]
   · rw [zBy e,Bool.false_and,Bool.false_and]
 · refine Nat.eq_of_testBit_eq fun b=>?_;rw [uS _ _ _ _ (jK a oM) oM,eV,eV,eV,lA a d i];by_cases f:b < c - 64
   · rw [zBx oM,zBx f]
   · rw [zBw oM,zBw f];by_cases g:b=c - 64
     · rw [zBx oM,zBx g]
     · rw [zBw oM,zBw g,show 64+b - 1=64+(b - 1) by omega];by_cases e:b < 64
       · rw [zBz e,Bool.true_and]
       rw [zBy e,Bool.false_and];exact pG a _ oM
def aE4 (a:List Bool) (c:Nat) (g:c < a.length) (j:a.length<=128) (i:c < 64):w0 (aC a c)=jX (w0 a) c (a.getD 64 false)/\w1 (aC a c)=jX (w1 a) 0 false:=by
 constructor
 · refine Nat.eq_of_testBit_eq fun b=>?_;rw [vH _ _ _ _ (jN a) i,fW,fW,fW,lF a g];by_cases e:b < c
   · rw [zBx e,zBx e]
   · rw [zBw e,zBw e];by_cases d:b < 63
     · rw [zBx d,zBz (show b < 64 by omega),zBz (show b+1 < 64 by omega)]
     · rw [zBw d];by_cases f:b=63;subst f;rfl
       · rw [zBy f,zBy (show ¬b < 64 by omega),Bool.false_and,Bool.false_and]
 · refine Nat.eq_of_testBit_eq fun b=>?_;rw [vH _ _ _ _ (jK a j) dC,eV,eV,lF a g,zBw oM,zBw oM,Bool.and_false];by_cases d:b < 63
   · rw [zBx d,show 64+b+1=64+(b+1) by omega,eV]
   rw [zBw d];exact pG a _ oM
def cut_hi (a:List Bool) (k:Nat) (f:k < a.length) (g:a.length<=128) (i:64<=k):w0 (aC a k)=w0 a/\w1 (aC a k)=jX (w1 a) (k - 64) false:=by
 constructor
 · refine Nat.eq_of_testBit_eq fun b=>?_;rw [fW,fW,lF a f];by_cases e:b < 64
   · rw [zBz e,zBx oM]
   · rw [zBy e,Bool.false_and,Bool.false_and]
 · refine Nat.eq_of_testBit_eq fun b=>?_;rw [vH _ _ _ _ (jK a g) oM,eV,eV,eV,lF a f,Bool.and_false];by_cases c:b < k - 64
   · rw [zBx oM,zBx c]
   · rw [zBw oM,zBw c,show 64+b+1=64+(b+1) by omega];by_cases d:b < 63
     · rw [zBx d]
     rw [zBw d];exact pG a _ oM
def aDQ (a:Nat) (b:a < 18446744073709551616):decide (a / 9223372036854775808=1)=a.testBit 63:=by
 rw [Nat.testBit_eq_decide_div_mod_eq];have:a / 2 ^ 63 % 2=a / 9223372036854775808:=by rw [show (2:Nat)^ 63=9223372036854775808 by decide];omega
 rw [this]
end
section
open Go.RowKit
def yK (b a:Nat) (e:b < 18446744073709551616) (f:a < 18446744073709551616):bits .andNot .u64 (b:Int) (a:Int)=((b&&&(18446744073709551615 - a):Nat):Int):=by
 have c:b % 2 ^ 64=b:=zBu oM;have d:a % 2 ^ 64=a:=zBu oM;have g:b&&&(18446744073709551615 - a) < 2 ^ 64:=Nat.and_lt_two_pow _ oM;show IntKind.u64.wrap (((BitVec.ofInt 64 (b:Int)&&& ~~~ BitVec.ofInt 64 (a:Int)).toNat:Nat):Int)=_;rw [BitVec.ofInt_natCast,BitVec.ofInt_natCast,BitVec.toNat_and,BitVec.toNat_not,BitVec.toNat_ofNat,BitVec.toNat_ofNat,c,d,IntKind.wrap_u64,show 2 ^ 64 - 1 - a=18446744073709551615 - a by omega];omega
def aBa {a b:Nat} (c:a < 18446744073709551616) (d:b < 18446744073709551616):a||| b < 18446744073709551616:=Nat.or_lt_two_pow (n:=64) c d
def yL (a:Nat) {b:Nat} (c:b < 18446744073709551616):a&&& b < 18446744073709551616:=Nat.and_lt_two_pow (n:=64) a c
def aAx (b a:Nat) (c:a < 64):vC b (a:Int)=b % 2 ^ a:=by
 unfold vC;rw [show min ((a:Int)).toNat 64=a by omega]
def aDO (b c:Nat) (f:Bool) (m:b < 18446744073709551616) (w:c < 64) (A:World):
 Calls prog 268 #[.int .u64 (b:Int),(c:Int),.bool f] A fun s G=>s=.returned (.tuple #[.int .u64 ((mJ b c f:Nat):Int),.bool (b.testBit 63)])/\A=G:=by
 have x:=aAx b c w;obtain ⟨d,i⟩:=eqx (b % 2 ^ c);have q:d < 18446744073709551616:=by rw [<-i];exact qH b c m
 obtain ⟨g,l⟩:=eqx (2 ^ c);have O:g < 18446744073709551616:=by rw [<-l];exact Nat.pow_lt_pow_right (a:=2) dC (show c < 64 from w)
 have N:(2:Int)^ c=(g:Int):=by rw [<-l];push_cast;rfl
 obtain ⟨p,e⟩:=eqx ((if f then g else 0:Nat));have u:p < 18446744073709551616:=by rw [<-e];split <;> omega
 have H:IntKind.u64.wrap (g:Int)=(g:Int):=by rw [IntKind.wrap_u64];omega
 have t:=aBJ d p q u;obtain ⟨n,j⟩:=eqx (d||| p);have E:n < 18446744073709551616:=by rw [<-j];exact aBa q u
 have C:=yK b d m q;obtain ⟨r,k⟩:=eqx (b&&&(18446744073709551615 - d));have M:r < 18446744073709551616:=by rw [<-k];exact yL _ oM
 obtain ⟨o,y⟩:=eqx (r*2 % 18446744073709551616);have F:o < 18446744073709551616:=oM;have J:IntKind.u64.wrap ((r:Int)*2)=(o:Int):=by rw [IntKind.wrap_u64];omega
 have D:=aBJ n o E F;have v:mJ b c f=n||| o:=by unfold mJ;rw [i,l,e,j,k,y]
 have z:((b:Int)/ 9223372036854775808==1)=b.testBit 63:=by rw [<-aDQ b m,Bool.eq_iff_iff,zCn,zCa];omega
 rw [j] at t;rw [k] at C;rw [v,<-z];have K:decide ((c:Int) < 0)=false:=by simp
 have L:¬((c:Int)>=64):=oM;have B:=lhd (x.trans i);clear v z x i l j k y;go_enter func268,ntmps268;go_wp2_with fail;refine (mS b (c:Int) m oM _).mono ?_;rintro s w1 ⟨rfl,rfl⟩;rw [B.out];cases f with
 | true=>
   rw [zBx rfl] at e;subst e;go_wp2_with fail;go_ret2;exact ⟨rfl,rfl⟩
 | false=>
   rw [zBw (by simp)] at e;subst e;have I:bits .or .u64 (d:Int) 0=(n:Int):=t;go_wp2_with fail;go_ret2;exact ⟨by rw [<-D];rfl,rfl⟩
def zP (b a:Nat) (i:Bool) (u:b < 18446744073709551616) (C:a < 64) (F:World):
 Calls prog 292 #[.int .u64 (b:Int),(a:Int),.bool i] F fun j P=>j=.returned (.tuple #[.int .u64 ((jX b a i:Nat):Int),.bool (b.testBit a)])/\F=P:=by
 have D:=aAx b a C;have s:=aAx (b / 2) a C;obtain ⟨p,k⟩:=eqx (b % 2 ^ a);have z:p < 18446744073709551616:=by rw [<-k];exact qH b a u
 have O:b / 2 < 18446744073709551616:=oM;obtain ⟨q,e⟩:=eqx (b / 2 % 2 ^ a);have L:q < 18446744073709551616:=by rw [<-e];exact qH _ a O
 obtain ⟨g,o⟩:=eqx (b / 2);have X:(b:Int)/ 2=(g:Int):=oM;have v:g < 18446744073709551616:=oM;obtain ⟨r,f⟩:=eqx ((if i then 9223372036854775808 else 0:Nat));have M:r < 18446744073709551616:=by rw [<-f];split <;> omega
 have I:=yK g q v L;obtain ⟨w,n⟩:=eqx (g&&&(18446744073709551615 - q));have E:w < 18446744073709551616:=by rw [<-n];exact yL _ oM
 have H:=aBJ p w z E;obtain ⟨d,m⟩:=eqx (p||| w);have N:d < 18446744073709551616:=by rw [<-m];exact aBa z E
 have y:=aBJ d r N M;have B:jX b a i=d||| r:=by unfold jX;rw [k,o,f];rw [o] at e;rw [e,n,m]
 obtain ⟨c,l⟩:=eqx (b / 2 ^ a);have T:(b:Int)/ 2 ^ a=(c:Int):=by rw [<-l];push_cast;rfl
 have U:c < 18446744073709551616:=by rw [<-l];exact Nat.lt_of_le_of_lt (Nat.div_le_self _ _) u
 have K:bits .and .u64 (c:Int) 1=((c&&& 1:Nat):Int):=(bits_nat .u64 64 dC (fun Y R S=>by rw [IntKind.wrap_u64];omega) c 1 oM dC).1;have t:(((c&&& 1:Nat):Int)==1)=b.testBit a:=by rw [Nat.testBit_eq_decide_div_mod_eq,l,Nat.and_one_is_mod,Bool.eq_iff_iff,zCn,zCa];omega
 obtain ⟨Q,A⟩:=eqx (c&&& 1);rw [A] at K t;rw [m] at H;rw [n] at I;rw [B,<-t];have V:decide ((a:Int) < 0)=false:=by simp
 have W:¬((a:Int)>=64):=oM;rw [o] at s e;obtain ⟨G,x⟩:=hqq2 (D.trans k) (s.trans e);clear B t D s k e o m n l A;go_enter func292,ntmps292;go_wp2_with fail;refine (mS b (a:Int) u oM _).mono ?_;rintro j w1 ⟨rfl,rfl⟩;rw [G.out];cases i with
 | true=>
   rw [zBx rfl] at f;subst f;have J:bits .or .u64 (d:Int) 9223372036854775808=((d||| 9223372036854775808:Nat):Int):=y;go_wp2_with fail;refine (mS g (a:Int) v oM _).mono ?_;rintro j w1 ⟨rfl,rfl⟩;rw [x.out];go_wp2_with fail;go_ret2;exact ⟨rfl,rfl⟩
 | false=>
   rw [zBw (by simp)] at f;subst f;have J:bits .or .u64 (d:Int) 0=((d||| 0:Nat):Int):=y;go_wp2_with fail;refine (mS g (a:Int) v oM _).mono ?_;rintro j w1 ⟨rfl,rfl⟩;rw [x.out];go_wp2_with fail;go_ret2;exact ⟨by rw [Nat.or_zero];rfl,rfl⟩
end
end Go.Proofs.YtnmapianpjamnaaGreatDoor
