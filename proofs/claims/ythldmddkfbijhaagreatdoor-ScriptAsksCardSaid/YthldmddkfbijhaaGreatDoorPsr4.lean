/- Lemmas of the walk. Conditions: each its own. -/
import Derived.Test.YthldmddkfbijhaaGreatDoorPsr1
import Derived.Test.YthldmddkfbijhaaGreatDoorPsr2
import Derived.Test.YthldmddkfbijhaaGreatDoorProg
set_option linter.all false
set_option maxRecDepth 100000
set_option maxHeartbeats 2000000
namespace Go.Proofs.YthldmddkfbijhaaGreatDoor
section
def nW (x k:Nat) (b:Bool):Nat:=(x % 2 ^ k|||(x / 2&&&(18446744073709551615 - x / 2 % 2 ^ k)))|||(if b then 9223372036854775808 else 0)
theorem aFv (y j:Nat) (hy:y < 18446744073709551616):(18446744073709551615 - y).testBit j=(decide (j < 64)&& !y.testBit j):=by
 have:=Nat.testBit_two_pow_sub_succ (n:=64) (x:=y) oM j;rw [<-this];congr 1;omega
theorem aIA (x k j:Nat):(x % 2 ^ k).testBit j=(decide (j < k)&&x.testBit j):=Nat.testBit_mod_two_pow _ _ _
theorem aFq (k j:Nat):(2 ^ k).testBit j=decide (k=j):=Nat.testBit_two_pow
theorem xK (x k:Nat) (hx:x < 18446744073709551616):x % 2 ^ k < 18446744073709551616:=Nat.lt_of_le_of_lt (Nat.mod_le _ _) hx
theorem aKT (x j:Nat) (hx:x < 18446744073709551616) (hj:64<=j):x.testBit j=false:=Nat.testBit_lt_two_pow (zAl hx (zBp (n:=2) dC hj))
theorem aBv (x k j:Nat) (b:Bool) (hx:x < 18446744073709551616) (hk:k < 64):(nW x k b).testBit j=if j < k then x.testBit j else if j < 63 then x.testBit (j+1) else (decide (j=63)&&b):=by
 unfold nW;have hd:x / 2 < 18446744073709551616:=Nat.lt_of_le_of_lt (Nat.div_le_self _ _) hx;have hd2:∀i,(x / 2).testBit i=x.testBit (i+1):=fun i=>by rw [Nat.testBit_succ]
 rw [Nat.testBit_or,Nat.testBit_or,Nat.testBit_and,aFv _ _ (xK _ k hd),aIA,aIA,hd2];have hb:(if b then 9223372036854775808 else 0:Nat).testBit j=(decide (j=63)&&b):=by
  cases b
  · simp
  rw [zBx rfl,show (9223372036854775808:Nat)=2 ^ 63 by decide,aFq,Bool.and_true];congr 1;exact propext eq_comm
 rw [hb];by_cases h1:j < k
 · have h4:decide (j=63)=false:=zBy oM;rw [zBx h1,zBz h1,h4];cases hx0:x.testBit j <;> cases hx1:x.testBit (j+1)<;> simp
 · rw [zBw h1,zBy h1];by_cases h2:j < 63
   · have h4:decide (j=63)=false:=zBy oM;have h5:decide (j < 64)=true:=zBz oM;rw [zBx h2,h4,h5];simp
   · rw [zBw h2,aKT x (j+1) hx oM];simp
theorem jM (l:List Bool) (j:Nat):(w0 l).testBit j=(decide (j < 64)&&l.getD j false):=by unfold w0;rw [kI,aFU]
theorem iC (l:List Bool) (j:Nat):(w1 l).testBit j=l.getD (64+j) false:=by unfold w1;rw [kI,aGF]
theorem vW (l:List Bool) (j:Nat) (h:l.length<=j):l.getD j false=false:=by
 rw [zAb,zBg h];rfl
theorem cut_hi (l:List Bool) (k:Nat) (hk:k < l.length) (hl:l.length<=128) (h:64<=k):w0 (aF l k)=w0 l/\w1 (aF l k)=nW (w1 l) (k - 64) false:=by
 constructor
 · refine Nat.eq_of_testBit_eq fun j=>?_;rw [jM,jM,oZ l hk];by_cases h3:j < 64
   · rw [zBz h3,zBx oM]
   · rw [zBy h3,Bool.false_and,Bool.false_and]
 · refine Nat.eq_of_testBit_eq fun j=>?_;rw [aBv _ _ _ _ (nH l hl) oM,iC,iC,iC,oZ l hk,Bool.and_false];by_cases h1:j < k - 64
   · rw [zBx oM,zBx h1]
   · rw [zBw oM,zBw h1,show 64+j+1=64+(j+1) by omega];by_cases h2:j < 63
     · rw [zBx h2]
     rw [zBw h2];exact vW l _ oM
theorem aGy (f:Nat):∀n r pos,n < 128 ^ f->n < 144115188075855872->eJ (lN f n++r) true 0 pos=eJ r (n==0) n (pos+(lN f n).length):=by
 induction f with
 | zero=>intro n r pos h _;have:n=0:=by simpa using h
         subst this;simp [lN]
 | succ f ih=>
   intro n r pos h h64;by_cases h0:n=0
   · subst h0;simp [tL]
   · rw [lN,zBw h0,zCo,ih (n / 128) _ pos (by rw [Nat.div_lt_iff_lt_mul oM];rw [Nat.pow_succ] at h;exact h) oM];rw [List.singleton_append,mQ];have hb:(UInt8.ofNat (n % 128+128)).toNat=n % 128+128:=(by simp [UInt8.toNat_ofNat'];omega);rw [hb,zBw,zBw oM]
     · have e1:n / 128*128+(n % 128+128)% 128=n:=oM;rw [e1,zAi,List.length_singleton,Nat.add_assoc];have:(n==0)=false:=(by simp [h0]);rw [this]
     by_cases h1:n / 128=0;simp [h1];omega;simp [h1];omega
theorem oV (n:Nat) (h:n < 18446744073709551616) (r:List UInt8) (pos:Nat):eJ (cA n++r) true 0 pos=some (n,pos+(cA n).length):=by
 unfold cA;rw [zCo,aGy 10 (n / 128) _ pos oM oM,List.singleton_append,mQ];have hb:(UInt8.ofNat (n % 128)).toNat=n % 128:=by simp [UInt8.toNat_ofNat'];omega
 rw [hb,zBw,zBx oM,zAi,List.length_singleton];congr 2;omega;simp;omega
theorem aIN (n:Nat):0 < (cA n).length:=by simp [cA]
theorem aIG (a r:List UInt8) (n:Nat) (h:n < 18446744073709551616):eI (a++(cA n++r)) (a.length:Int)=(n,((a.length+(cA n).length:Nat):Int),0):=by
 rw [eI,zBw (by simp;omega)];simp only [zBr,List.drop_left];rw [oV n h]
def dA (r:List (Int×Nat)) (s:Int):List (Int×Nat):=
 match r.getLast? with
 | some (x,n)=>if x=s then r.dropLast++ [(x,n+1)] else r++ [(s,1)]
 | none=> [(s,1)]
def bN (l:List Int):List (Int×Nat):=l.foldl dA []
theorem aCn (l:List Int) (k:Nat) (s:Int) (h:l[k]?=some s):bN (l.take (k+1))=dA (bN (l.take k)) s:=by
 have hk:k < l.length:=(zAc.1 h).1;rw [List.take_succ_eq_append_getElem hk,(zAc.1 h).2];simp [bN,List.foldl_append]
theorem gX (r:List (Int×Nat)) (x:Int) (n:Nat):dA (r++ [(x,n)]) x=r++ [(x,n+1)]:=by simp [dA]
theorem gA (r:List (Int×Nat)) (x s:Int) (n:Nat) (h:x≠s):dA (r++ [(x,n)]) s=r++ [(x,n)]++ [(s,1)]:=by simp [dA,h]
theorem aCp (s:Int):dA [] s= [(s,1)]:=by simp [dA]
theorem aCq (r:List (Int×Nat)) (s:Int):(dA r s).length<=r.length+1/\r.length<=(dA r s).length:=by
 rcases List.eq_nil_or_concat r with rfl |⟨q,⟨x,n⟩,rfl⟩
 · simp [dA]
 · rw [List.concat_eq_append];by_cases h:x=s
   · subst h;rw [gX];simp
   · rw [gA _ _ _ _ h];simp
theorem mH (l:List Int):(bN l).length<=l.length:=by
 have key:∀(l:List Int) (r:List (Int×Nat)),(l.foldl dA r).length<=r.length+l.length:=by
  intro l
  induction l with
  | nil=>intro r;simp
  | cons s l ih=>intro r;have:=ih (dA r s);have h:=(aCq r s).1;simp only [List.foldl_cons,zCg];omega
 have:=key l [];simpa [bN] using this
def eK (r:List (Int×Nat)):List Int:=r.flatMap fun x=>List.replicate x.2 x.1
theorem aCV (r:List (Int×Nat)) (s:Int):eK (dA r s)=eK r++ [s]:=by
 rcases List.eq_nil_or_concat r with rfl |⟨q,⟨x,n⟩,rfl⟩
 · simp [dA,eK]
 · rw [List.concat_eq_append];by_cases h:x=s
   · subst h;rw [gX];simp [eK,List.flatMap_append,List.replicate_succ']
   · rw [gA _ _ _ _ h];simp [eK,List.flatMap_append]
theorem nV (l:List Int):eK (bN l)=l:=by
 have key:∀(l:List Int) (r:List (Int×Nat)),eK (l.foldl dA r)=eK r++l:=by
  intro l
  induction l with
  | nil=>intro r;simp
  | cons s l ih=>intro r;rw [List.foldl_cons,ih,aCV];simp
 have:=key l [];simpa [bN,eK] using this
def tW (r:List (Int×Nat)):Prop:=(∀x∈r,1<=x.2)/\r.Pairwise (fun _ _=>True)/\∀i a b,r[i]?=some a->r[i+1]?=some b->a.1≠b.1
theorem aD9 (r:List (Int×Nat)) (s:Int) (h:tW r):tW (dA r s):=by
 obtain ⟨h1,_,h2⟩:=h;refine ⟨?_,List.pairwise_of_forall (by intros;trivial),?_⟩
 · rcases List.eq_nil_or_concat r with rfl |⟨q,⟨x,n⟩,rfl⟩
   · simp [dA]
   · rw [List.concat_eq_append] at*
     by_cases hx:x=s
     · subst hx;rw [gX];intro y hy;rcases zCp.1 hy with hy | hy;exact h1 y (List.mem_append_left _ hy)
       · have:=List.mem_singleton.1 hy;subst this;simp
     · rw [gA _ _ _ _ hx];intro y hy;rcases zCp.1 hy with hy | hy;exact h1 y hy
       · have:=List.mem_singleton.1 hy;subst this;simp
 · intro i a b ha hb;rcases List.eq_nil_or_concat r with rfl |⟨q,⟨x,n⟩,rfl⟩
   · simp [dA] at hb
   · rw [List.concat_eq_append] at*
     by_cases hx:x=s
     · subst hx;rw [gX] at ha hb;have hi:i+1 < (q++ [(x,n+1)]).length:=(zAc.1 hb).1;simp at hi;by_cases hl:i+1=q.length;rw [zAo oM,hl] at hb;simp at hb;rw [zAn oM] at ha;have:=h2 i a (x,n) (by rw [zAn oM];exact ha) (by rw [zAo oM,hl];simp);rw [<-hb];exact this
       · rw [zAn oM] at ha hb;exact h2 i a b (by rw [zAn oM];exact ha) (by rw [zAn oM];exact hb)
     rw [gA _ _ _ _ hx] at ha hb;have hi:i+1 < (q++ [(x,n)]++ [(s,1)]).length:=(zAc.1 hb).1;simp at hi;by_cases hl:i=q.length;subst hl;rw [zAn (by simp)] at ha;simp at ha;rw [zAo (by simp)] at hb;simp at hb;rw [<-ha,<-hb];exact hx;rw [zAn (by simp;omega)] at ha hb;exact h2 i a b ha hb
theorem aAC (l:List Int):tW (bN l):=by
 have key:∀(l:List Int) (r:List (Int×Nat)),tW r->tW (l.foldl dA r):=by
  intro l
  induction l with
  | nil=>intro r h;exact h
  | cons s l ih=>intro r h;exact ih _ (aD9 r s h)
 exact key l [] ⟨by simp,List.Pairwise.nil,by simp⟩
theorem aEJ (r:List (Int×Nat)) (x:Int×Nat) (h:x∈r):x.2<=(eK r).length:=by
 induction r with
 | nil=>cases h
 | cons a r ih=>
   have e:eK (a::r)=List.replicate a.2 a.1++eK r:=(by simp [eK]);rw [e,zAi,zCn];rcases List.mem_cons.1 h with rfl | h;omega;have:=ih h;omega
theorem pZ (l:List Int) (x:Int×Nat) (h:x∈bN l):x.2<=l.length:=by
 have:=aEJ _ x h;rwa [nV] at this
def kE (s:Int):Prop:=0<=s/\s < 257
instance (s:Int):Decidable (kE s):=inferInstanceAs (Decidable (_/\_))
def cQ (x:Int×Nat):List UInt8:=cA x.1.toNat++cA x.2
def fE (r:List (Int×Nat)):List UInt8:=cA r.length++r.flatMap cQ
def rC (l:List Int):Option (List UInt8):=if ∀x∈bN l,kE x.1 then some (fE (bN l)) else none
theorem uE (x:Int×Nat):(cQ x).length<=22:=by
 have:=dG x.1.toNat;have:=dG x.2;simp [cQ];omega
theorem zO (r:List (Int×Nat)) (k:Nat) (x:Int×Nat) (h:r[k]?=some x):(r.take (k+1)).flatMap cQ=(r.take k).flatMap cQ++cQ x:=by
 have hk:k < r.length:=(zAc.1 h).1;rw [List.take_succ_eq_append_getElem hk,(zAc.1 h).2];simp [List.flatMap_append]
theorem uJ (r:List (Int×Nat)):(r.flatMap cQ).length<=22*r.length:=by
 induction r with
 | nil=>simp
 | cons a r ih=>
   have:=uE a;rw [List.flatMap_cons,zAi,zCg];omega
def pG (b:List UInt8) (a:Nat):Option (Nat×Nat×Nat):=
 match eJ (b.drop a) true 0 a with
 | none=>none
 | some (s,to_)=>
   match eJ (b.drop to_) true 0 to_ with
   | none=>none
   | some (k,e)=>some (s,k,e)
def rgo (b:List UInt8) (mst:Nat):Nat->Nat->Nat->List Int->List Int×Int
 | 0,a,_,acc=>if a=b.length then (acc,0) else ([],4)
 | n+1,a,last,acc=>
   match pG b a with
   | none=>([],4)
   | some (s,k,e)=>if 257<=s∨s=last∨k=0 then ([],4) else if mst - acc.length < k then ([],3) else rgo b mst n e s (acc++List.replicate k (s:Int))
def mP (b:List UInt8) (most:Int):List Int×Int:=
 match eJ b true 0 0 with
 | none=>([],4)
 | some (n,a)=>rgo b most.toNat n a 257 []
theorem xR (l:List UInt8):∀first acc pos n e,eJ l first acc pos=some (n,e)->pos < e/\e<=pos+l.length/\n < 18446744073709551616:=by
 induction l with
 | nil=>intro first acc pos n e h;rw [eJ] at h;cases h
 | cons c r ih=>
   intro first acc pos n e h
   rw [mQ] at h;split at h
   · cases h
   · rename_i hc
     split at h
     · injection h with h;injection h with h1 h2;subst h1;subst h2;have hacc:acc<=144115188075855871:=(by rcases zBe 144115188075855871 acc with h | h;exact absurd (by simp [h]) hc;exact h);refine ⟨by omega,by simp,by omega⟩
     have:=ih _ _ _ _ _ h;simp only [zCg];omega
theorem qG (b:List UInt8) (a n e:Nat) (ha:a<=b.length) (h:eJ (b.drop a) true 0 a=some (n,e)):eI b (a:Int)=(n,(e:Int),0):=by
 rw [eI,zBw oM];simp only [zBr,h]
theorem qH (b:List UInt8) (a:Nat) (ha:a<=b.length) (h:eJ (b.drop a) true 0 a=none):eI b (a:Int)=(0,(a:Int),4):=by
 rw [eI,zBw oM];simp only [zBr,h]
theorem aCA (b:List UInt8) (mst n a last:Nat) (acc:List Int) (h:pG b a=none):rgo b mst (n+1) a last acc=([],4):=by simp only [rgo,h]
theorem aCz (b:List UInt8) (mst n a last:Nat) (acc:List Int) (s k e:Nat) (h:pG b a=some (s,k,e)):
 rgo b mst (n+1) a last acc=if 257<=s∨s=last∨k=0 then ([],4) else if mst - acc.length < k then ([],3) else rgo b mst n e s (acc++List.replicate k (s:Int)):=by simp only [rgo,h]
theorem aCs (b:List UInt8) (a:Nat) (h:eJ (b.drop a) true 0 a=none):pG b a=none:=by simp only [pG,h]
theorem aCr (b:List UInt8) (a s to_:Nat) (h:eJ (b.drop a) true 0 a=some (s,to_)) (h2:eJ (b.drop to_) true 0 to_=none):pG b a=none:=by simp only [pG,h,h2]
theorem wV (b:List UInt8) (a s to_ k e:Nat) (h:eJ (b.drop a) true 0 a=some (s,to_)) (h2:eJ (b.drop to_) true 0 to_=some (k,e)):pG b a=some (s,k,e):=by simp only [pG,h,h2]
theorem rU (n:Nat):(rV n).length=4:=by simp [rV,aBs]
theorem aIH (k n j:Nat) (h:j < k):(aBs k n)[j]?=some (UInt8.ofNat (n / 256 ^ j % 256)):=by
 induction k with
 | zero=>omega
 | succ k ih=>
   have hl:∀k,(aBs k n).length=k:=fun k=>by induction k with
    | zero=>rfl
    | succ k ih=>simp [aBs,ih]
   rw [aBs];by_cases hj:j=k
   · subst hj;rw [zAo (by rw [hl];omega),hl];simp
   · rw [zAn (by rw [hl];omega),ih oM]
theorem aJQ (a b:List UInt8) (n:Nat) (h:n < 4294967296):ofB (a++(rV n++b)) (a.length:Int)=(n,0):=by
 have h4:=rU n;rw [ofB,zBw (by simp;omega),zBw (by simp;omega)];have hg:∀j,j < 4->(a++(rV n++b))[a.length+j]?=some (UInt8.ofNat (n / 256 ^ j % 256)):=fun j hj=>by rw [zAo oM,Nat.add_sub_cancel_left,zAn oM];exact aIH 4 n j hj
 simp only [ofN,zBr];rw [hg 0 oM,hg 1 oM,hg 2 oM,hg 3 oM];have e:∀m:Nat,(UInt8.ofNat (m % 256)).toNat=m % 256:=fun m=>by simp [UInt8.toNat_ofNat']
 simp only [Option.getD_some,e];congr 1;simp only [Nat.reducePow,Nat.div_one,zBl];omega
def mS (s:Nat):Nat:=if s % 2=1 then (s / 2)^^^ 3988292384 else s / 2
def rY:Nat->Nat->Nat
 | 0,s=>s
 | k+1,s=>mS (rY k s)
def kK (i:Nat):Nat:=rY 8 i
def uM:List UInt8->Nat->Nat
 | [],s=>s
 | c::r,s=>uM r (kK ((s % 256)^^^ c.toNat)^^^(s / 256))
def aBw (s:Nat) (b:List UInt8):Nat:=4294967295 - uM b (4294967295 - s)
def nX (b:List UInt8):Nat:=aBw 0 b
theorem aEN {s:Nat} (h:s < 4294967296):mS s < 4294967296:=by
 unfold mS;split;exact Nat.xor_lt_two_pow (n:=32) oM oM;omega
theorem xW {s:Nat} (h:s < 4294967296):∀k,rY k s < 4294967296
 | 0=>h
 | k+1=>aEN (xW h k)
theorem aAM {i:Nat} (h:i < 256):kK i < 4294967296:=xW oM 8
theorem aIT {s:Nat} (h:s < 4294967296) (c:UInt8):(s % 256)^^^ c.toNat < 256:=Nat.xor_lt_two_pow (n:=8) oM c.toNat_lt
theorem aIS {s:Nat} (h:s < 4294967296) (c:UInt8):kK ((s % 256)^^^ c.toNat)^^^(s / 256) < 4294967296:=
 Nat.xor_lt_two_pow (n:=32) (aAM (aIT h c)) oM
theorem rZ:∀(b:List UInt8) (s:Nat),s < 4294967296->uM b s < 4294967296
 | [],_,h=>h
 | c::r,s,h=>rZ r _ (aIS h c)
theorem xX:∀(b:List UInt8) (c:UInt8) (s:Nat),uM (b++ [c]) s=kK ((uM b s % 256)^^^ c.toNat)^^^(uM b s / 256)
 | [],_,_=>rfl
 | d::r,c,s=>xX r c _
theorem aFK (b:List UInt8):nX b < 4294967296:=by
 unfold nX aBw;have:=rZ b (4294967295 - 0) oM;omega
def dV (b:List UInt8):List UInt8:=cA b.length++(b++rV (nX b))
def hQ:List UInt8:= [83,75,82,49]
def wT (rs:List Nat) (rate N:Nat):List UInt8:=(List.range (N / rate+1)).flatMap fun k=>cA (rs.idxOf (k*rate))
def jN (L:List Nat):List Int:=L.map fun n:Nat=>(n:Int)
def gM (L:List Nat):List UInt8:=fE (bN (jN L))
def pL (L rs:List Nat) (most rate N:Nat):List UInt8:=hQ++(dO [most,rate,N]++(dV (gM L)++dV (wT rs rate N)))
def fC (L rs:List Nat) (most rate N:Nat):List UInt8:=pL L rs most rate N++rV (nX (pL L rs most rate N))
theorem xG {b a r:List UInt8} {n at_ to_:Nat} (h:b=a++(cA n++r)) (ha:a.length=at_) (ht:at_+(cA n).length=to_) (hn:n < 18446744073709551616):eI b (at_:Int)=(n,(to_:Int),0):=by
 rw [h,<-ht,<-ha];exact aIG a r n hn
structure SnAt (body:List UInt8) (most rate N:Nat) (f s:List UInt8) (p1 p2 p3 p4 p5:Nat):Prop where
 e1:body=hQ++(cA most++(cA rate++(cA N++(dV f++dV s))))
 h1:4+(cA most).length=p1
 h2:p1+(cA rate).length=p2
 h3:p2+(cA N).length=p3
 h4:p3+(dV f).length=p4
 h5:p4+(dV s).length=p5
theorem aC1 (L rs:List Nat) (most rate N:Nat):pL L rs most rate N=hQ++(cA most++(cA rate++(cA N++(dV (gM L)++dV (wT rs rate N))))):=by
 unfold pL;simp [dO]
theorem SnAt.of (L rs:List Nat) (most rate N:Nat):∃p1 p2 p3 p4 p5,SnAt (pL L rs most rate N) most rate N (gM L) (wT rs rate N) p1 p2 p3 p4 p5/\(pL L rs most rate N).length=p5:=by
 refine ⟨_,_,_,_,_,⟨aC1 L rs most rate N,rfl,rfl,rfl,rfl,rfl⟩,?_⟩;rw [aC1];simp [hQ];omega
theorem SnAt.n1 {body f s:List UInt8} {most rate N p1 p2 p3 p4 p5:Nat} (h:SnAt body most rate N f s p1 p2 p3 p4 p5) (hm:most < 18446744073709551616):eI body 4=(most,(p1:Int),0):=
 xG (a:=hQ) h.e1 rfl h.h1 hm
theorem SnAt.n2 {body f s:List UInt8} {most rate N p1 p2 p3 p4 p5:Nat} (h:SnAt body most rate N f s p1 p2 p3 p4 p5) (hm:rate < 18446744073709551616):eI body (p1:Int)=(rate,(p2:Int),0):=
 xG (a:=hQ++cA most) (r:=cA N++(dV f++dV s)) (by rw [h.e1];simp) (by rw [zAi];have:=h.h1;have:hQ.length=4:=rfl;omega) h.h2 hm
theorem SnAt.n3 {body f s:List UInt8} {most rate N p1 p2 p3 p4 p5:Nat} (h:SnAt body most rate N f s p1 p2 p3 p4 p5) (hm:N < 18446744073709551616):eI body (p2:Int)=(N,(p3:Int),0):=
 xG (a:=hQ++(cA most++cA rate)) (r:=dV f++dV s) (by rw [h.e1];simp) (by rw [zAi,zAi];have:=h.h1;have:=h.h2;have:hQ.length=4:=rfl;omega) h.h3 hm
theorem jV (b:List UInt8):(dV b).length=(cA b.length).length+(b.length+4):=by
 unfold dV;rw [zAi,zAi,rU]
theorem SnAt.f1 {body f s:List UInt8} {most rate N p1 p2 p3 p4 p5:Nat} (h:SnAt body most rate N f s p1 p2 p3 p4 p5) (hm:f.length < 18446744073709551616):
 ∃q:Nat,eI body (p3:Int)=(f.length,(q:Int),0)/\q+(f.length+4)=p4/\(body.drop q).take f.length=f/\p4<=body.length:=by
 have ea:body=(hQ++(cA most++(cA rate++cA N)))++(cA f.length++((f++rV (nX f))++dV s)):=by rw [h.e1];simp [dV]
 have hla:(hQ++(cA most++(cA rate++cA N))).length=p3:=by simp only [zAi];have:=h.h1;have:=h.h2;have:=h.h3;have:hQ.length=4:=rfl;omega
 refine ⟨p3+(cA f.length).length,xG ea hla rfl hm,?_,?_,?_⟩;have:=h.h4;rw [jV] at this;omega
 · rw [ea,<-zCo,List.drop_left' (by rw [zAi,hla]),zCo,List.take_left' rfl]
 have h5:=h.h5;have e:=congrArg List.length h.e1;simp only [zAi] at e;have h1:=h.h1;have h2:=h.h2;have h3:=h.h3;have h4:=h.h4;have hm4:hQ.length=4:=rfl;omega
theorem SnAt.f2 {body f s:List UInt8} {most rate N p1 p2 p3 p4 p5:Nat} (h:SnAt body most rate N f s p1 p2 p3 p4 p5) (hm:s.length < 18446744073709551616):
 ∃q:Nat,eI body (p4:Int)=(s.length,(q:Int),0)/\q+(s.length+4)=p5/\(body.drop q).take s.length=s/\p5=body.length:=by
 have ea:body=(hQ++(cA most++(cA rate++(cA N++dV f))))++(cA s.length++((s++rV (nX s))++ [])):=by rw [h.e1];simp [dV]
 have hla:(hQ++(cA most++(cA rate++(cA N++dV f)))).length=p4:=by simp only [zAi];have:=h.h1;have:=h.h2;have:=h.h3;have:=h.h4;have:hQ.length=4:=rfl;omega
 refine ⟨p4+(cA s.length).length,xG ea hla rfl hm,?_,?_,?_⟩;have:=h.h5;rw [jV] at this;omega
 · rw [ea,<-zCo,List.drop_left' (by rw [zAi,hla]),zCo,List.take_left' rfl]
 have h5:=h.h5;have e:=congrArg List.length h.e1;simp only [zAi] at e;have h1:=h.h1;have h2:=h.h2;have h3:=h.h3;have h4:=h.h4;have hm4:hQ.length=4:=rfl;omega
end
section
open Go.RowKit
theorem kW:(Tryz.prog.info? 5).map (fun i=>(i.zero,i.size,i.bytes))=some (some (.int .u8 0),1,1):=by kernel_rfl
def uv (n:Nat):Value:=.int .u64 (n:Int)
theorem aLi (N:Nat):bits .or .u8 ((N:Int)% 256) 128=((N % 128+128:Nat):Int):=by
 have key:∀a:Fin 256,bits .or .u8 ((a.val:Nat):Int) 128=((a.val % 128+128:Nat):Int):=by decide+kernel
 have:=key ⟨N % 256,by omega⟩;simp only at this;rw [show ((N:Int)% 256)=((N % 256:Nat):Int) by omega,this];omega
theorem aK5 (N:Nat):bits .and .u8 ((N:Int)% 256) 127=((N % 128:Nat):Int):=by
 have key:∀a:Fin 256,bits .and .u8 ((a.val:Nat):Int) 127=((a.val % 128:Nat):Int):=by decide+kernel
 have:=key ⟨N % 256,by omega⟩;simp only at this;rw [show ((N:Int)% 256)=((N % 256:Nat):Int) by omega,this];omega
theorem aLk (n e:Nat):Value.int .u8 (bits .or .u8 ((n:Int)/ 2 ^ e % 256) 128)=bv (UInt8.ofNat (n / 2 ^ e % 128+128)):=by
 have:((n:Int)/ 2 ^ e)=((n / 2 ^ e:Nat):Int):=by push_cast;rfl
 rw [this,aLi];unfold bv;congr 1;simp [UInt8.toNat_ofNat'];omega
theorem aK0 (n:Nat):Value.int .u8 (bits .and .u8 ((n:Int)% 256) 127)=bv (UInt8.ofNat (n % 128)):=by
 rw [aK5];unfold bv;congr 1;simp [UInt8.toNat_ofNat'];omega
theorem aKe (A:Option Addr) (m c:Nat) (l:List Nat) (w:World) (hr:Rd w w.heap.size 1 A m (l.map uv)) (hl:∀n∈l,n < 18446744073709551616) (hm:m<=100000):
 Calls Tryz.prog 39 #[.slice A m c] w fun e w'=>∃v k,e=.returned v/\w'.ownsRow w.heap.size 5 1 v k ((dO l).map bv)/\Below w.heap.size w w':=by
 obtain ⟨i0,hi0,hz0,hz1,hz2⟩:=info_parts kW;obtain ⟨Hr,Hl⟩:=hqq2 hr hl;have hlen:=hr.1;have Hlen:=lhd hlen;clear hr hl hlen;go_enter Tryz.func39,Tryz.ntmps39;go_wp2;go_loopw [3,9] (fun v i wr=>∃k q:Nat,k<=m/\i=.int .i64 k/\wr.ownsRow w.heap.size 5 1 v q ((dO (l.take k)).map bv)/\Below w.heap.size w wr) (fun _ i _=>m -(intOf i).toNat)
 case atStart=>exact ⟨0,0,zAp _,rfl,World.ownsRow_nil _ _ _ _,Below.refl _ _⟩
 case round=>
  obtain ⟨k,q,hk,rfl,hown,hb⟩:=hrel;by_cases hlt:k < m
  · have hx:∃n,l[k]?=some n:=(by have:=Hlen.out;simp at this;exact ⟨l[k]' oM,zAa oM⟩);obtain ⟨n,hn⟩:=hx;obtain ⟨b,off,u,rfl,hbl,hu,hc⟩:=(Hr.out.below hb).get hlt;rw [zAf,hn] at hu;simp at hu;subst hu;unfold uv at hc;have hn64:n < 18446744073709551616:=Hl.out n (zAd hn);obtain ⟨Hn,H64⟩:=hqq2 hn hn64;clear hn hn64;go_wp2
    go_loop [6] (fun s=>∃j:Nat,j<=9/\s=.int .i64 (7*(j:Int))/\(j=0∨1<=n / 2 ^(7*j))) (fun s=>100 -(intOf s).toNat)
    case atStart=>exact ⟨0,by omega,rfl,.inl rfl⟩
    case round=>
        obtain ⟨j,hj,rfl,hge⟩:=hrel;go_wp2
        · have hbig:(128:Int)<=(n:Int)/ 2 ^(7*j):=(by assumption);have hbig':128<=n / 2 ^(7*j):=(by exact_mod_cast hbig);have hj1:=aF6 n j H64.out hj hbig';refine ⟨⟨j+1,hj1,by go_num,.inr (by rw [aKX];omega)⟩,by simp [intOf];omega⟩
        · have hsm:(n:Int)/ 2 ^(7*j) < 128:=(by assumption);have hsm':n / 2 ^(7*j) < 128:=(by exact_mod_cast hsm);go_loopw [3,6] (fun v s wr'=>∃j' q':Nat,j'<=j/\s=.int .i64 (7*(j':Int))/\wr'.ownsRow w.heap.size 5 1 v q' ((dO (l.take k)++lN 10 (n / 2 ^(7*(j'+1)))).map bv)/\Below w.heap.size w wr') (fun _ s _=>(intOf s).toNat)
          case atStart=>exact ⟨j,q,zAs _,rfl,by rw [aKX,Nat.div_eq_of_lt hsm'];simpa [tL] using hown,hb⟩
          case round=>
           obtain ⟨j',q',hj',rfl,hown',hb'⟩:=hrel;have hb2:=hb'.size;have hq:q'<=1100010:=(by have h1:=hown'.1;have h2:=xU (l.take k);have h3:=aCG 10 (n / 2 ^(7*(j'+1)));simp at h1 h2;omega);by_cases h0:j'=0
           · subst h0;go_wp2_with (at_builtin;refine bP _ rfl (.tmp 33) (.tmp 37) _ rfl w.heap.size 5 i0 (.int .u8 0) 1 1 Tryz.underlying26 hi0 hz0 hz1 hz2 rfl dC u3 q' _ rfl hown' rfl rfl (by simp [Value.oneCell']) (by unfold maxLen;omega) oM hb2 ?_;intro v2 w2 hown2 hg2 hs2 hat2);have hb3:=aZ hb' hown' hg2 hb2;clear hg2 hat2;go_roundw
             case rel=>refine ⟨k+1,q'+1,by omega,by go_num,?_,hb3⟩;rw [aCX l k n Hn.out];rw [aK0] at hown2;simpa [cA] using hown2
             case measure=>simp [intOf];omega
           · go_wp2_with (at_builtin;refine bP _ rfl (.tmp 24) (.tmp 31) _ rfl w.heap.size 5 i0 (.int .u8 0) 1 1 Tryz.underlying26 hi0 hz0 hz1 hz2 rfl dC u3 q' _ rfl hown' rfl rfl (by simp [Value.oneCell']) (by unfold maxLen;omega) oM hb2 ?_;intro v2 w2 hown2 hg2 hs2 hat2);have hb3:=aZ hb' hown' hg2 hb2;refine ⟨⟨j' - 1,q'+1,by omega,dD oM,?_,hb3⟩,by simp [intOf];omega⟩;rw [aLk] at hown2;obtain ⟨i,rfl⟩:∃i,j'=i+1:=⟨j' - 1,by omega⟩;rw [zBb,aGj (n / 2 ^(7*(i+1))),<-aKX];simpa using hown2;exact aJU n i j hj' hge;exact zAl (aKM n i H64.out) dC
  · have hkm:k=m:=oM;subst hkm;go_wp2;go_ret;refine ⟨u3,q,rfl,?_,hb⟩;have:l.take k=l:=zAg (by have:=Hlen.out;simp at this;omega);rw [this] at hown;exact hown
theorem aKf (A:Option Addr) (m c B:Nat) (l:List Nat) (w:World) (hr:Rd w B 1 A m (l.map uv)) (hB:B<=w.heap.size) (hl:∀n∈l,n < 18446744073709551616) (hm:m<=100000):
 Calls Tryz.prog 39 #[.slice A m c] w fun e w'=>∃A' c',e=.returned (.slice A' (dO l).length c')/\Made w' w.heap.size 5 1 A' (dO l).length c' ((dO l).map bv)/\Below w.heap.size w w':=by
 refine (aKe A m c l w (hr.mono hB) hl hm).mono fun e w' ⟨v,k,he,ho,hb⟩=>?_;have hk:(dO l).length=k:=by simpa using ho.1
 subst hk;obtain ⟨A',c',rfl,hm⟩:=aS ho;exact ⟨A',c',he,hm,hb⟩
theorem zC (A:Option Addr) (m c B:Nat) (l:List Nat) (w:World) (bs:List UInt8) (k:Nat) (he:dO l=bs) (hk:bs.length=k) (hr:Rd w B 1 A m (l.map uv)) (hB:B<=w.heap.size) (hl:∀n∈l,n < 18446744073709551616) (hm:m<=100000):
 Calls Tryz.prog 39 #[.slice A m c] w fun e w'=>∃A' c',e=.returned (.slice A' k c')/\Made w' w.heap.size 5 1 A' k c' (bs.map bv)/\Below w.heap.size w w':=by
 subst he;subst hk;exact aKf A m c B l w hr hB hl hm
theorem aJy (w:World):(sizeOf 5).run Tryz.prog w=.ok 1 w:=by kernel_rfl
theorem sB (acc x:Nat) (h:acc<=144115188075855871) (hx:x < 256):bits .or .u64 ((acc:Int)*128) (IntKind.u64.wrap (bits .and .u8 (x:Int) 127))=((acc*128+x % 128:Nat):Int):=by
 have h1:bits .and .u8 (x:Int) 127=((x % 128:Nat):Int):=by have:=u8_and_nat x 127 hx oM;rw [nat_mask7] at this;exact this
 have h2:IntKind.u64.wrap ((x % 128:Nat):Int)=((x % 128:Nat):Int):=by rw [IntKind.wrap_u64];omega
 rw [h1,h2,show ((acc:Int)*128)=((acc*128:Nat):Int) by push_cast;rfl,u64_or_nat _ _ oM oM,nat_join 7 (acc*128) (x % 128) oM oM]
theorem oK {a:Nat} {b c:Int} {r:Nat×Int×Int} (h:r=(a,b,c)):Ending.returned (.tuple #[.int .u64 (a:Int),.int .i64 b,.int .i64 c])=Ending.returned (.tuple #[uv r.1,iv r.2.1,iv r.2.2]):=by subst h;rfl
theorem aCB {a:Nat} {v b b' c:Int} {r:Nat×Int×Int} (hv:v=(a:Int)) (hb:b'=b) (h:r=(a,b,c)):Ending.returned (.tuple #[.int .u64 v,.int .i64 b',.int .i64 c])=Ending.returned (.tuple #[uv r.1,iv r.2.1,iv r.2.2]):=by subst h;subst hv;subst hb;rfl
theorem aKl (A:Option Addr) (m c:Nat) (l:List UInt8) (at_:Int) (B:Nat) (w:World) (hr:Rd w B 1 A m (l.map bv)) (hmc:m<=c) (hcl:c<=maxLen):
 Calls Tryz.prog 104 #[.slice A m c,.int .i64 at_] w fun e w'=>e=.returned (.tuple #[uv (eI l at_).1,iv (eI l at_).2.1,iv (eI l at_).2.2])/\w=w':=by
 unfold maxLen at hcl;have hlen:l.length=m:=by simpa using hr.1
 obtain ⟨Hlen,Hr⟩:=hqq2 hlen hr;clear hlen hr;by_cases hlo:at_ < 0
 · have hfin:eI l at_=(0,at_,2):=(by rw [eI,zBx (.inl hlo)]);have Hfin:=lhd hfin;clear hfin;go_enter Tryz.func104,Tryz.ntmps104;go_wp2;go_ret3;exact ⟨oK Hfin.out,rfl⟩
 by_cases hhi:(m:Int) < at_
 · have hfin:eI l at_=(0,at_,2):=(by rw [eI,zBx (.inr (by rw [Hlen.out];exact hhi))]);have Hfin:=lhd hfin;clear hfin;go_enter Tryz.func104,Tryz.ntmps104;go_wp2;go_ret3;exact ⟨oK Hfin.out,rfl⟩
 obtain ⟨k,rfl⟩:=Int.eq_ofNat_of_zero_le (Int.not_lt.1 hlo);have hkm:k<=m:=oM;have hfin:eI l (k:Int)=match eJ (l.drop k) true 0 k with | some (n,p)=>(n,(p:Int),0)| none=>(0,(k:Int),4):=by rw [eI,zBw (by rw [Hlen.out];omega)];rfl
 have Hfin:=lhd hfin;have hc0:=Hr.out.cut (k:=k) (cap:=c) hkm hmc;have hcut:=iL (P:=Tryz.prog) 26 5 1 Tryz.underlying26 aJy A m c k hkm;generalize dP A c k 1=A' at hc0 hcut;have Hc:=lhd hc0;have hd1:decide ((k:Int) < 0)=false:=by simp
 have hd2:decide (m < k)=false:=by simp;omega
 clear hfin hlo hc0 hhi;go_enter Tryz.func104,Tryz.ntmps104;go_wp2
 go_loop [7,23] (fun n i=>∃j acc:Nat,j<=m - k/\i=.int .i64 j/\n=.int .u64 acc/\eJ (l.drop (k+j)) (j==0) acc (k+j)=eJ (l.drop k) true 0 k) (fun _ i=>m -(intOf i).toNat)
 case atStart=>exact ⟨0,0,zAp _,rfl,rfl,rfl⟩
 case round=>
  obtain ⟨j,acc,hj,rfl,rfl,hg⟩:=hrel;have Hg:=lhd hg;clear hg;by_cases hlt:j < m - k
  · obtain ⟨b,off,u,rfl,hbl,hu,hc⟩:=Hc.out.get hlt;have hx:∃x,l[k+j]?=some x:=⟨l[k+j]'(by have:=Hlen.out;omega),zAa (by have:=Hlen.out;omega)⟩;obtain ⟨x,hx⟩:=hx;simp only [zBl,zBt,zAf,hx,Option.map_some,Option.some.injEq] at hu;subst hu;unfold bv at hc;have hdr:l.drop (k+j)=x::l.drop (k+j+1):=(by have hl:k+j < l.length:=(by have:=Hlen.out;omega);rw [zAx hl];have:l[k+j]=x:=(zAc.1 hx).2;rw [this]);have hx256:x.toNat < 256:=x.toNat_lt;rw [hdr,mQ] at Hg;clear hx hdr;go_wp2
    · have h0:(x.toNat:Int)=128:=(by assumption);have hj0:j=0:=(by assumption);go_ret3;refine ⟨oK ?_,rfl⟩;rw [Hfin.out,<-Hg.out,zBx (by simp;left;omega)]
    · have hj0:j=0:=(by assumption);have h1:((x.toNat:Int)==128)=true∨(144115188075855871:Int) < (acc:Int):=(by assumption);go_ret3;refine ⟨oK ?_,rfl⟩;rw [Hfin.out,<-Hg.out,zBx (by simp at h1⊢;omega)]
    · have hj0:j=0:=(by assumption);have h1:¬(x.toNat:Int)=128:=(by assumption);have h2:((x.toNat:Int)==128)=false/\(acc:Int)<=144115188075855871:=(by assumption);have h3:(x.toNat:Int) < 128:=(by assumption);subst hj0;go_ret3;refine ⟨aCB (sB acc _ oM hx256) ?_ (b:=((k+0+1:Nat):Int)) ?_,rfl⟩;push_cast;rfl
      · rw [Hfin.out,<-Hg.out,zBw (by simp;omega),zBx oM]
    have hj0:j=0:=(by assumption);have h1:¬(x.toNat:Int)=128:=(by assumption);have h2:((x.toNat:Int)==128)=false/\(acc:Int)<=144115188075855871:=(by assumption);have h3:(128:Int)<=(x.toNat:Int):=(by assumption);subst hj0;refine ⟨⟨0+1,acc*128+x.toNat % 128,by omega,rfl,dN (sB acc _ oM hx256),?_⟩,by simp [intOf];omega⟩;rw [<-Hg.out,zBw (by simp;omega),zBw oM];rfl
    · have hj0:¬j=0:=(by assumption);have h1:(144115188075855871:Int) < (acc:Int):=(by assumption);go_ret3;refine ⟨oK ?_,rfl⟩;rw [Hfin.out,<-Hg.out,zBx (by simp;omega)]
    · have hj0:¬j=0:=(by assumption);have h2:(acc:Int)<=144115188075855871:=(by assumption);have h3:(x.toNat:Int) < 128:=(by assumption);go_ret3;refine ⟨aCB (sB acc _ oM hx256) ?_ (b:=((k+j+1:Nat):Int)) ?_,rfl⟩;push_cast;rfl
      · rw [Hfin.out,<-Hg.out,zBw (by simp;omega),zBx oM]
    · have hj0:¬j=0:=(by assumption);have h2:(acc:Int)<=144115188075855871:=(by assumption);have h3:(128:Int)<=(x.toNat:Int):=(by assumption);refine ⟨⟨j+1,acc*128+x.toNat % 128,by omega,by go_num,dN (sB acc _ oM hx256),?_⟩,by simp [intOf];omega⟩;rw [<-Hg.out,zBw (by simp;omega),zBw oM];rfl
  · have hjm:j=m - k:=oM;have Hj:=lhd hjm;clear hjm;go_wp2;go_ret3;refine ⟨oK ?_,rfl⟩;have hd:l.drop (k+j)= []:=List.drop_eq_nil_of_le (by rw [Hlen.out];have:=Hj.out;omega);rw [Hfin.out,<-Hg.out,hd,eJ]
theorem fK (A:Option Addr) (m c:Nat) (l:List UInt8) (at_:Int) (B:Nat) (w:World) (n:Nat) (p k:Int) (h:eI l at_=(n,p,k)) (hr:Rd w B 1 A m (l.map bv)) (hmc:m<=c) (hcl:c<=maxLen):
 Calls Tryz.prog 104 #[.slice A m c,.int .i64 at_] w fun e w'=>e=.returned (.tuple #[.int .u64 (n:Int),.int .i64 p,.int .i64 k])/\w=w':=
 (aKl A m c l at_ B w hr hmc hcl).mono fun e w' ⟨he,hw⟩=>⟨by rw [he,h];rfl,hw⟩
theorem aGw (acc x k:Nat) (h:acc < 256 ^ k) (hx:x < 256) (hk:k < 4):bits .or .u32 (acc:Int) ((x:Int)*2 ^(8*k)% 4294967296)=((acc+x*256 ^ k:Nat):Int):=by
 have e:(256:Nat)^ k=2 ^(8*k):=by rw [Nat.pow_mul]
 have hp:x*256 ^ k < 4294967296:=by have h1:x*256 ^ k<=255*256 ^ k:=Nat.mul_le_mul_right _ oM;have h2:256 ^ k<=256 ^ 3:=zBp oM oM;omega
 have hacc:acc < 4294967296:=by have h2:256 ^ k<=256 ^ 3:=zBp oM oM;omega
 have e2:((x:Int)*2 ^(8*k)% 4294967296)=((x*256 ^ k:Nat):Int):=by
  rw [e] at hp⊢;have:(x:Int)*2 ^(8*k)=((x*2 ^(8*k):Nat):Int):=by push_cast;rfl
  rw [this];omega
 rw [e2,u32_or_nat _ _ hacc hp,Nat.or_comm,nat_join (8*k) (x*256 ^ k) acc (by rw [e];exact Nat.mul_mod_left _ _) (by rw [<-e];exact h),zCs]
theorem aHj (n:Nat) (w:World):
 Calls Tryz.prog 43 #[.int .u32 (n:Int)] w fun e w'=>∃v,e=.returned v/\w'.ownsRow w.heap.size 5 1 v 4 ((rV n).map bv)/\Below w.heap.size w w':=by
 obtain ⟨i0,hi0,hz0,hz1,hz2⟩:=info_parts kW;go_enter Tryz.func43,Tryz.ntmps43;go_wp2;go_loopw [0,3,4] (fun x v i wr=>∃k:Nat,k<=4/\i=.int .i64 k/\x=.int .u32 ((n / 256 ^ k:Nat):Int)/\wr.ownsRow w.heap.size 5 1 v k ((aBs k n).map bv)/\Below w.heap.size w wr) (fun _ _ i _=>4 -(intOf i).toNat)
 case atStart=>exact ⟨0,zAp _,rfl,by simp,World.ownsRow_nil _ _ _ _,Below.refl _ _⟩
 case round=>
  obtain ⟨k,hk,rfl,rfl,hown,hb⟩:=hrel;have hb2:=hb.size;by_cases hlt:k < 4
  · generalize hm:n / 256 ^ k=m;have Hm:=lhd hm;clear hm;go_wp2_with (at_builtin;refine bP _ rfl (.tmp 6) (.tmp 9) _ rfl w.heap.size 5 i0 (.int .u8 0) 1 1 Tryz.underlying26 hi0 hz0 hz1 hz2 rfl dC u3 k _ rfl hown rfl rfl (by simp [Value.oneCell']) (by unfold maxLen;omega) oM hb2 ?_;intro v2 w2 hown2 hg2 hs2 hat2);have hb3:=aZ hb hown hg2 hb2;refine ⟨⟨k+1,by omega,by go_num,dN ?_,?_,hb3⟩,by simp [intOf];omega⟩;rw [Nat.pow_succ,<-Nat.div_div_eq_div_mul,Hm.out];push_cast;rfl;have hv:Value.int .u8 ((m:Int)% 256)=bv (UInt8.ofNat (m % 256)):=(by unfold bv;congr 1;simp [UInt8.toNat_ofNat']);rw [hv] at hown2;rw [aBs,Hm.out];simpa using hown2
  · have h4:k=4:=oM;subst h4;go_wp2;go_ret;exact ⟨u3,rfl,hown,hb⟩
theorem aAZ (n:Nat) (w:World):
 Calls Tryz.prog 43 #[.int .u32 (n:Int)] w fun e w'=>∃A' c',e=.returned (.slice A' 4 c')/\Made w' w.heap.size 5 1 A' 4 c' ((rV n).map bv)/\Below w.heap.size w w':=by
 refine (aHj n w).mono fun e w' ⟨v,he,ho,hb⟩=>?_;obtain ⟨A',c',rfl,hm⟩:=aS ho;exact ⟨A',c',he,hm,hb⟩
theorem aBb {a:Nat} {v b:Int} {r:Nat×Int} (hv:v=(a:Int)) (h:r=(a,b)):Ending.returned (.tuple #[.int .u32 v,.int .i64 b])=Ending.returned (.tuple #[.int .u32 (r.1:Int),iv r.2]):=by subst h;subst hv;rfl
theorem aK9 (A:Option Addr) (m c:Nat) (l:List UInt8) (at_:Int) (B:Nat) (w:World) (hr:Rd w B 1 A m (l.map bv)) (hcl:m<=maxLen):
 Calls Tryz.prog 45 #[.slice A m c,.int .i64 at_] w fun e w'=>e=.returned (.tuple #[.int .u32 ((ofB l at_).1:Int),iv (ofB l at_).2])/\w=w':=by
 unfold maxLen at hcl;have hlen:l.length=m:=by simpa using hr.1
 obtain ⟨Hlen,Hr⟩:=hqq2 hlen hr;clear hlen hr;by_cases hlo:at_ < 0
 · have hfin:ofB l at_=(0,2):=(by rw [ofB,zBx (.inl hlo)]);have Hfin:=lhd hfin;clear hfin;go_enter Tryz.func45,Tryz.ntmps45;go_wp2;go_ret2;exact ⟨aBb rfl Hfin.out,rfl⟩
 by_cases hhi:(m:Int) < at_
 · have hfin:ofB l at_=(0,2):=(by rw [ofB,zBx (.inr (by rw [Hlen.out];exact hhi))]);have Hfin:=lhd hfin;clear hfin;go_enter Tryz.func45,Tryz.ntmps45;go_wp2;go_ret2;exact ⟨aBb rfl Hfin.out,rfl⟩
 by_cases hsh:(m:Int) - at_ < 4
 · have hfin:ofB l at_=(0,4):=(by rw [ofB,zBw (by rw [Hlen.out];omega),zBx (by rw [Hlen.out];omega)]);have Hfin:=lhd hfin;clear hfin;go_enter Tryz.func45,Tryz.ntmps45;go_wp2;go_ret2;exact ⟨aBb rfl Hfin.out,rfl⟩
 obtain ⟨a,rfl⟩:=Int.eq_ofNat_of_zero_le (Int.not_lt.1 hlo);have hfin:ofB l (a:Int)=(ofN l a 4,0):=by rw [ofB,zBw (by rw [Hlen.out];omega),zBw (by rw [Hlen.out];omega)];rfl
 have Hfin:=lhd hfin;have ham:a+4<=m:=oM;have hd1:decide ((a:Int) < 0)=false:=by simp
 have hd2:decide (m < a)=false:=by simp;omega
 have hd3:decide ((m:Int) -(a:Int) < 4)=false:=by simp;omega
 clear hfin hlo hhi hsh;go_enter Tryz.func45,Tryz.ntmps45;go_wp2
 go_loop [6,23] (fun n i=>∃k:Nat,k<=4/\i=.int .i64 k/\n=.int .u32 (ofN l a k:Int)) (fun _ i=>4 -(intOf i).toNat)
 case atStart=>exact ⟨0,zAp _,rfl,rfl⟩
 case round=>
  obtain ⟨k,hk,rfl,rfl⟩:=hrel;by_cases hlt:k < 4
  · obtain ⟨b,off,u,rfl,hbl,hu,hc⟩:=Hr.out.get (k:=a+k) oM;have hx:∃x,l[a+k]?=some x:=⟨l[a+k]'(by have:=Hlen.out;omega),zAa (by have:=Hlen.out;omega)⟩;obtain ⟨x,hx⟩:=hx;simp only [zAf,hx,Option.map_some,Option.some.injEq] at hu;subst hu;unfold bv at hc;have hs:ofN l a (k+1)=ofN l a k+x.toNat*256 ^ k:=(by rw [ofN,hx];rfl);have hlt2:=aKJ l a k;obtain ⟨Hs,Hlt2⟩:=hqq2 hs hlt2;generalize ofN l a k=acc at*
    have hx256:x.toNat < 256:=x.toNat_lt;clear hx hs hlt2;go_wp2;refine ⟨⟨k+1,by omega,by go_num,dN ?_⟩,by simp [intOf];omega⟩;rw [Hs.out];exact aGw acc x.toNat k Hlt2.out hx256 hlt
  · have h4:k=4:=oM;subst h4;go_wp2;go_ret2;exact ⟨aBb rfl Hfin.out,rfl⟩
theorem aLl (A:Option Addr) (m c:Nat) (l:List UInt8) (at_:Int) (B:Nat) (w:World) (n:Nat) (k:Int) (h:ofB l at_=(n,k)) (hr:Rd w B 1 A m (l.map bv)) (hcl:m<=maxLen):
 Calls Tryz.prog 45 #[.slice A m c,.int .i64 at_] w fun e w'=>e=.returned (.tuple #[.int .u32 (n:Int),.int .i64 k])/\w=w':=
 (aK9 A m c l at_ B w hr hcl).mono fun e w' ⟨he,hw⟩=>⟨by rw [he,h];rfl,hw⟩
def kT (x:Int×Nat):List Value:= [iv x.1,iv (x.2:Int)]
def cE (r:List (Int×Nat)):List Value:=r.flatMap kT
theorem rB (r:List (Int×Nat)):(cE r).length=r.length*2:=by
 induction r with
 | nil=>rfl
 | cons a r ih=>
   have e:cE (a::r)=kT a++cE r:=(by simp [cE]);rw [e,zAi,ih,zCg];simp [kT];omega
theorem jK (a b:List (Int×Nat)):cE (a++b)=cE a++cE b:=by simp [cE,List.flatMap_append]
theorem jQ (r:List (Int×Nat)) (i j:Nat) (x:Int×Nat) (h:r[i]?=some x) (hj:j < 2):(cE r)[i*2+j]?=(kT x)[j]?:=by
 induction r generalizing i with
 | nil=>simp at h
 | cons a r ih=>
   have e:cE (a::r)=kT a++cE r:=(by simp [cE]);have hl:(kT a).length=2:=rfl;rcases i with _ | i
   · simp at h;subst h;rw [e,Nat.zero_mul,zBi,zAn oM]
   simp only [zCf] at h;rw [e,zAo oM,hl,show (i+1)*2+j - 2=i*2+j by omega];exact ih i h
theorem aHZ:(Tryz.prog.info? 139).map (fun i=>(i.zero,i.size,i.bytes))=some (some (.agg #[.int .i64 0,.int .i64 0]),2,16):=by kernel_rfl
theorem aK8 (A:Option Addr) (m c B:Nat) (l:List Int) (w:World) (hr:Rd w B 1 A m (l.map iv)) (hB:B<=w.heap.size) (hm:m<=1099511627776):
 Calls Tryz.prog 97 #[.slice A m c] w fun e w'=>∃v,e=.returned v/\w'.ownsRow w.heap.size 139 2 v (bN l).length (cE (bN l))/\Below w.heap.size w w':=by
 obtain ⟨i0,hi0,hz0,hz1,hz2⟩:=info_parts aHZ;have hll:l.length=m:=by simpa using hr.1
 obtain ⟨Hll,Hr⟩:=hqq2 hll (hr.mono hB);clear hr hll;go_enter Tryz.func97,Tryz.ntmps97;go_wp2;go_loopw [3,9] (fun v i wr=>∃k:Nat,k<=m/\i=.int .i64 k/\wr.ownsRow w.heap.size 139 2 v (bN (l.take k)).length (cE (bN (l.take k)))/\Below w.heap.size w wr) (fun _ i _=>m -(intOf i).toNat)
 case atStart=>exact ⟨0,zAp _,rfl,World.ownsRow_nil _ _ _ _,Below.refl _ _⟩
 case round=>
  obtain ⟨k,hk,rfl,hown,hb⟩:=hrel;have hsz:=hb.size;by_cases hlt:k < m
  · obtain ⟨s,hs⟩:∃s,l[k]?=some s:=⟨l[k]'(by have:=Hll.out;omega),zAa (by have:=Hll.out;omega)⟩;obtain ⟨b,off,u,rfl,hbl,hu,hc⟩:=(Hr.out.below hb).get hlt;rw [zAf,hs] at hu;simp at hu;subst hu;unfold iv at hc;have hnext:=aCn l k s hs;have hlen:=mH (l.take k);rw [zAj] at hlen;have hcnt:∀x∈bN (l.take k),x.2<=m:=fun x hx=>by have:=pZ _ x hx;rw [zAj] at this;omega
    generalize bN (l.take k)=r at*
    have Hnext:=lhd hnext;clear hnext hs;rcases List.eq_nil_or_concat r with rfl |⟨q,⟨x,n⟩,rfl⟩
    · obtain ⟨A',c',rfl,hm3⟩:=aS hown;have hlen0:([]:List (Int×Nat)).length=0:=rfl;rw [hlen0] at*
      clear hm3 hcnt;go_wp2_with (at_builtin;refine bP _ rfl (.tmp 36) (.tmp 39) _ rfl w.heap.size 139 i0 _ 2 16 Tryz.underlying136 hi0 hz0 hz1 hz2 rfl dC (.slice A' 0 c') 0 _ rfl hown rfl rfl (by simp [Value.oneCell']) (by unfold maxLen;omega) oM hsz ?_;intro v2 w2 hown2 hg2 hs2 hat2);have hb2:=aZ hb hown hg2 hsz;clear hg2 hat2;go_roundw
      case rel=>refine ⟨k+1,by omega,by go_num,?_,hb2⟩;rw [Hnext.out,aCp];exact hown2
      case measure=>simp [intOf];omega
    · rw [List.concat_eq_append] at*
      obtain ⟨p,hp⟩:=eqx q.length;have hl1:(q++ [(x,n)]).length=p+1:=(by simp [hp]);rw [hl1] at hown hlen;obtain ⟨g,cap,cur,rfl,hg0,hgb,hpc,hcm,_⟩:∃g cap cur,u3=.slice (some ⟨g,0,none⟩) (p+1) cap/\w.heap.size<=g/\wr.heap[g]?=some (.cells cur 139 (0,0))/\p+1<=cap/\cap<=maxLen/\True:=(by rcases hown.2 with ⟨_,h⟩|⟨g,cap,cur,h1,h2,h3,h4,h5,_⟩;omega;exact ⟨g,cap,cur,h1,h2,h3,h4,h5,trivial⟩);have hx0:(cE (q++ [(x,n)]))[p*2]?=some (iv x):=(by have:=jQ (q++ [(x,n)]) p 0 (x,n) (by rw [zAo oM,hp];simp) oM;simpa [kT] using this);have hx1:(cE (q++ [(x,n)]))[p*2+1]?=some (iv n):=(by have:=jQ (q++ [(x,n)]) p 1 (x,n) (by rw [zAo oM,hp];simp) oM;simpa [kT] using this);have g0:wr.cell? ⟨g,p*2,none⟩=some (.int .i64 x):=(hown.cellAt (p*2) oM).trans hx0;have g1:wr.cell? ⟨g,p*2+1,none⟩=some (.int .i64 (n:Int)):=(hown.cellAt (p*2+1) oM).trans hx1;have f1:=hown.frozenAt (p*2+1);have hnb:(n:Int)<=1099511627776:=(by have:=hcnt (x,n) (by simp);simp only at this;omega);have hpp:((p+1:Nat):Int) - 1=(p:Int):=oM;have Hp:=lhd hp;clear hx0 hx1 hp hl1 hgb hcnt;by_cases hxs:x=s
      · have t1:(x==s)=true:=(by rw [zCq];exact hxs);have Hxs:=lhd hxs;clear hxs;go_wp2;obtain ⟨hst,hgr⟩:=hown.stored (p*2+1) (.int .i64 ((n:Int)+1));refine ⟨⟨k+1,by omega,by go_num,?_,hb.setCell (p:=⟨g,p*2+1,none⟩) hg0 _⟩,by simp [intOf];omega⟩;rw [Hnext.out,<-Hxs.out,gX];have e1:(q++ [(x,n+1)]).length=p+1:=(by simp [Hp.out]);have e2:(cE (q++ [(x,n)])).set (p*2+1) (.int .i64 ((n:Int)+1))=cE (q++ [(x,n+1)]):=(by rw [jK,jK,List.set_append_right _ _ (by rw [rB,Hp.out];omega),rB,Hp.out];congr 1;rw [show p*2+1 - p*2=1 by omega];rfl);rw [e1,<-e2];exact hst
      · have t1:(x==s)=false:=(by rw [zCb];exact hxs);have Hxs:=lhd hxs;clear hxs;go_wp2_with (at_builtin;refine bP _ rfl (.tmp 36) (.tmp 39) _ rfl w.heap.size 139 i0 _ 2 16 Tryz.underlying136 hi0 hz0 hz1 hz2 rfl dC (.slice (some ⟨g,0,none⟩) (p+1) cap) (p+1) _ rfl hown rfl rfl (by simp [Value.oneCell']) (by unfold maxLen;omega) oM hsz ?_;intro v2 w2 hown2 hg2 hs2 hat2);have hb2:=aZ hb hown hg2 hsz;clear hg2 hat2;go_roundw
        case rel=>refine ⟨k+1,by omega,by go_num,?_,hb2⟩;rw [Hnext.out,gA _ _ _ _ Hxs.out,jK];have e1:(q++ [(x,n)]++ [(s,1)]).length=p+1+1:=(by simp [Hp.out]);rw [e1];exact hown2
        case measure=>simp [intOf];omega
  · have hkm:k=m:=oM;have htk:l.take k=l:=zAg (by have:=Hll.out;omega);have hge:m<=k:=oM;rw [htk] at hown;clear hkm htk;go_wp2;go_ret;exact ⟨u3,rfl,hown,hb⟩
theorem aJa (A:Option Addr) (m c B:Nat) (l:List Int) (w:World) (r:List (Int×Nat)) (n:Nat) (h:bN l=r) (hn:r.length=n) (hr:Rd w B 1 A m (l.map iv)) (hB:B<=w.heap.size) (hm:m<=1099511627776):
 Calls Tryz.prog 97 #[.slice A m c] w fun e w'=>∃A' c',e=.returned (.slice A' n c')/\Made w' w.heap.size 139 2 A' n c' (cE r)/\Below w.heap.size w w':=by
 subst h;subst hn;refine (aK8 A m c B l w hr hB hm).mono fun e w' ⟨v,he,ho,hb⟩=>?_;obtain ⟨A',c',rfl,hm⟩:=aS ho;exact ⟨A',c',he,hm,hb⟩
theorem aF0 (s:Int) (w:World) (h:kE s):Calls Tryz.prog 98 #[.int .i64 s] w fun e w'=>e=.returned (.bool true)/\w=w':=by
 obtain ⟨h1,h2⟩:=h;go_enter Tryz.func98,Tryz.ntmps98;go_wp2;go_ret;exact ⟨bX (by simp <;> omega),rfl⟩
theorem aHK (s:Int) (w:World) (h:¬kE s):Calls Tryz.prog 98 #[.int .i64 s] w fun e w'=>e=.returned (.bool false)/\w=w':=by
 have h':s < 0∨(0<=s/\257<=s):=by unfold kE at h;omega
 rcases h' with h1 |⟨h1,h2⟩
 · go_enter Tryz.func98,Tryz.ntmps98;go_wp2;go_ret;exact ⟨bX (by simp <;> omega),rfl⟩
 · go_enter Tryz.func98,Tryz.ntmps98;go_wp2;go_ret;exact ⟨bX (by simp <;> omega),rfl⟩
def aKg (w w':World) (o:Option (List UInt8)) (e:Ending):Prop:=
 (∃bs A c,o=some bs/\e=.returned (.tuple #[.slice A bs.length c,.int .i64 0])/\Made w' w.heap.size 5 1 A bs.length c (bs.map bv))∨
 (o=none/\e=.returned (.tuple #[.slice none 0 0,.int .i64 1]))
theorem aE5 (A:Option Addr) (m c B:Nat) (l:List Int) (w:World) (hr:Rd w B 1 A m (l.map iv)) (hB:B<=w.heap.size) (hm:m<=1000000):
 Calls Tryz.prog 38 #[.slice A m c] w fun e w'=>aKg w w' (rC l) e/\Below w.heap.size w w':=by
 obtain ⟨i0,hi0,hz0,hz1,hz2⟩:=info_parts kW;have hll:l.length=m:=by simpa using hr.1
 obtain ⟨r,hrr⟩:=eqx (bN l);obtain ⟨n,hn⟩:=eqx r.length;have hnm:n<=1000000:=by have:=mH l;rw [hrr] at this;omega
 have hcnt:∀x∈r,x.2<=1000000:=fun x hx=>by have:=pZ l x (by rw [hrr];exact hx);omega
 have Hcnt:=lhd hcnt;have hput:rC l=if ∀x∈r,kE x.1 then some (fE r) else none:=by unfold rC;rw [hrr]
 obtain ⟨Hput,Hrr,Hn,Hr⟩:=hqq4 hput hrr hn hr;have hB0:=Below.refl w.heap.size w;clear hr hll hrr hn hput hcnt;go_enter Tryz.func38,Tryz.ntmps38;go_wp2_with fail;refine (aJa _ _ _ _ l _ r n Hrr.out Hn.out Hr.out hB oM).mono ?_;rintro e w1 ⟨A1,c1,rfl,hm1,hb1⟩;have hs1:=hb1.size;have Ho1:=lhd hm1.own;clear hm1;obtain ⟨k0,hk0⟩:=eqx ((cA n).length);have hk1:k0<=11:=by rw [<-hk0];exact dG n
 have Hk0:=lhd hk0;clear hk0;go_wp2_with fail;refine (zC _ _ _ _ [n] _ (cA n) k0 (qJ n) Hk0.out (Rd.made _ _ 1 1 _ rfl) nL (by simp;omega) oM).mono ?_;rintro e w2 ⟨A2,c2,rfl,hm2,hb2⟩;have hB2:=(hb1.alloc hs1 _).trans (hb2.mono (by simp;omega));have hs2:=hB2.size;have hs12:w1.heap.size < w2.heap.size:=by have:=hb2.size;simp at this;omega
 have hown2:w2.ownsRow w.heap.size 5 1 (.slice A2 k0 c2) k0 ((cA n).map bv):=bF hm2.own (by simp;omega);have hruns:w2.ownsRow w.heap.size 139 2 (.slice A1 n c1) n (cE r):=aP (Ho1.out.alloc _) hb2;clear hm2 hb2 hb1;go_wp2_with fail;go_loopw [5,17] (fun v i wr=>∃k q:Nat,k<=n/\i=.int .i64 k/\wr.ownsRow w.heap.size 5 1 v q ((cA n++(r.take k).flatMap cQ).map bv)/\wr.ownsRow w.heap.size 139 2 (.slice A1 n c1) n (cE r)/\Below w.heap.size w wr/\∀x∈r.take k,kE x.1) (fun _ i _=>n -(intOf i).toNat)
 case atStart=>exact ⟨0,k0,zAp _,rfl,by simpa using hown2,hruns,hB2,by simp⟩
 case round=>
  obtain ⟨k,q,hk,rfl,hown,hruns,hb,hok⟩:=hrel;have Hok:=lhd hok;have hsz:=hb.size;have hq:q<=22000011:=by have h1:=hown.1;have h2:=uJ (r.take k);have h3:=dG n;rw [zAj] at h2;simp only [zBc,zAi] at h1;omega
  clear hok;by_cases hlt:k < n
  · obtain ⟨x,hx⟩:∃x,r[k]?=some x:=⟨r[k]'(by have:=Hn.out;omega),zAa (by have:=Hn.out;omega)⟩;obtain ⟨g,hA1,hgl⟩:∃g,A1=some ⟨g,0,none⟩/\g < wr.heap.size:=(by obtain ⟨g,cap,hv,_,hlt⟩:=hruns.form oM;injection hv with h1 h2 h3;exact ⟨g,h1,hlt⟩);subst hA1;have d0:wr.cell? ⟨g,k*2,none⟩=some (.int .i64 x.1):=(hruns.cellAt (k*2) oM).trans ((jQ r k 0 x hx oM).trans rfl);have d1:wr.cell? ⟨g,k*2+1,none⟩=some (.int .i64 (x.2:Int)):=(hruns.cellAt (k*2+1) oM).trans ((jQ r k 1 x hx oM).trans rfl);have hnext:=zO r k x hx;have hxc:=Hcnt.out x (zAd hx);have hin:∀y∈r.take (k+1),y∈r.take k∨y=x:=(by intro y hy;have hkl:k < r.length:=(zAc.1 hx).1;rw [List.take_succ_eq_append_getElem hkl,(zAc.1 hx).2] at hy;simpa using hy);have hmem:=zAd hx;obtain ⟨s,y⟩:=x;simp only at d0 d1 hxc;obtain ⟨Hnext,Hin,Hmem⟩:=hqq3 hnext hin hmem;clear hnext hx hin hmem;by_cases hsy:kE s
    · obtain ⟨sn,rfl⟩:=Int.eq_ofNat_of_zero_le hsy.1;have hs257:(sn:Int) < 257:=hsy.2;have Hsy:=lhd hsy;clear hsy;obtain ⟨k2,hk2⟩:=eqx ((cQ ((sn:Int),y)).length);have hk3:k2<=22:=(by rw [<-hk2];exact uE _);have Hk2:=lhd hk2;have henc:dO [sn,y]=cQ ((sn:Int),y):=(by simp [dO,cQ]);have Henc:=lhd henc;clear hk2 henc;go_wp2_with (go_at_call 98;refine (aF0 _ _ Hsy.out).mono ?_;rintro e w3 ⟨rfl,rfl⟩);refine (zC _ _ _ _ [sn,y] _ (cQ ((sn:Int),y)) k2 Henc.out Hk2.out (Rd.made' _ _ 1 2 _ _ rfl (by simp)) nL (by simp;omega) oM).mono ?_;rintro e w4 ⟨A4,c4,rfl,hm4,hb4⟩;have hB4:=((hb.alloc hsz _).alloc (by simp;omega) _).trans (hb4.mono (by simp;omega));have hs4:=hB4.size;have hown4:w4.ownsRow w.heap.size 5 1 u5 q ((cA n++(r.take k).flatMap cQ).map bv):=aP ((hown.alloc _).alloc _) hb4;have hruns4:w4.ownsRow w.heap.size 139 2 (.slice (some ⟨g,0,none⟩) n c1) n (cE r):=aP ((hruns.alloc _).alloc _) hb4;have Hr4:=lhd hm4.rd;have Hone:=lhd (iM (cQ ((sn:Int),y)));clear hm4 hb4 hown hruns;go_wp2_with (at_builtin;refine aX _ rfl (.tmp 25) (.tmp 33) _ rfl w.heap.size 5 i0 (.int .u8 0) 1 1 Tryz.underlying26 hi0 hz0 hz1 hz2 rfl dC u5 q _ rfl hown4 w4.heap.size A4 k2 c4 _ rfl Hr4.out Hone.out (by unfold maxLen;omega) oM hs4 ?_;intro v5 w5 hown5 hg5 hat5);have hB5:=aZ hB4 hown4 hg5 hs4;have hruns5:=hruns4.kept hg5 (aEn hruns4 hown4 dC);clear hg5 hat5 hruns4 hown4;go_roundw
      case rel=>refine ⟨k+1,q+k2,by omega,by go_num,?_,hruns5,hB5,?_⟩;rw [Hnext.out,<-zCo,zAz];exact hown5;intro z hz;rcases Hin.out z hz with h | h;exact Hok.out z h;rw [h];exact Hsy.out
      case measure=>simp [intOf];omega
    · have Hsy:=lhd hsy;clear hsy;go_wp2_with (go_at_call 98;refine (aHK _ _ Hsy.out).mono ?_;rintro e w3 ⟨rfl,rfl⟩);go_ret2;refine ⟨.inr ⟨?_,rfl⟩,hb.alloc hsz _⟩;rw [Hput.out,zBw];intro hall;exact Hsy.out (hall _ Hmem.out)
  · have hkn:k=n:=oM;have hge:n<=k:=oM;have htk:r.take k=r:=zAg (by have:=Hn.out;omega);rw [htk] at hown Hok;clear hkn htk hruns;obtain ⟨A',c',rfl,hm3⟩:=aS hown;go_wp2;go_ret2;have hqn:(fE r).length=q:=(by have:=hm3.len;rw [zBc] at this;rw [<-this,fE,Hn.out]);refine ⟨.inl ⟨fE r,A',c',?_,?_,?_⟩,hb⟩
    · rw [Hput.out,zBx Hok.out]
    rw [hqn];rfl;rw [hqn,fE,Hn.out];exact hm3
end
end Go.Proofs.YthldmddkfbijhaaGreatDoor
