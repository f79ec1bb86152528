/- Parts of the walk, joined from several texts. Conditions: what each lemma says. -/
import Derived.Test.YtnhmjomhloainaaGreatDoorPq1
import Derived.OpenShut
import Derived.BigQuiet
import Derived.Deep.QuietTactic
set_option linter.all false
set_option maxRecDepth 100000
set_option maxHeartbeats 1000000
namespace Go.Proofs.YtnhmjomhloainaaGreatDoor
def cU (r:List (Int×Nat)) (s:Int):List (Int×Nat):=
 match r.getLast? with
 | some (x,n)=>if x=s then r.dropLast++ [(x,n+1)] else r++ [(s,1)]
 | none=> [(s,1)]
def aU (l:List Int):List (Int×Nat):=l.foldl cU []
theorem rY (l:List Int) (k:Nat) (s:Int) (h:l[k]?=some s):aU (l.take (k+1))=cU (aU (l.take k)) s:=by
 have hk:k < l.length:=(zAc.1 h).1;rw [List.take_succ_eq_append_getElem hk,(zAc.1 h).2];simp [aU,List.foldl_append]
theorem fB (r:List (Int×Nat)) (x:Int) (n:Nat):cU (r++ [(x,n)]) x=r++ [(x,n+1)]:=by simp [cU]
theorem eS (r:List (Int×Nat)) (x s:Int) (n:Nat) (h:x≠s):cU (r++ [(x,n)]) s=r++ [(x,n)]++ [(s,1)]:=by simp [cU,h]
theorem rZ (s:Int):cU [] s= [(s,1)]:=by simp [cU]
theorem aA8 (r:List (Int×Nat)) (s:Int):(cU r s).length<=r.length+1/\r.length<=(cU r s).length:=by
 rcases List.eq_nil_or_concat r with rfl |⟨q,⟨x,n⟩,rfl⟩
 · simp [cU]
 · rw [List.concat_eq_append];by_cases h:x=s
   · subst h;rw [fB];simp
   · rw [eS _ _ _ _ h];simp
theorem gN (l:List Int):(aU l).length<=l.length:=by
 have key:∀(l:List Int) (r:List (Int×Nat)),(l.foldl cU r).length<=r.length+l.length:=by
  intro l
  induction l with
  | nil=>intro r;simp
  | cons s l ih=>intro r;have:=ih (cU r s);have h:=(aA8 r s).1;simp only [List.foldl_cons,zCf];omega
 have:=key l [];simpa [aU] using this
def dV (r:List (Int×Nat)):List Int:=r.flatMap fun x=>List.replicate x.2 x.1
theorem aBA (r:List (Int×Nat)) (s:Int):dV (cU r s)=dV r++ [s]:=by
 rcases List.eq_nil_or_concat r with rfl |⟨q,⟨x,n⟩,rfl⟩
 · simp [cU,dV]
 · rw [List.concat_eq_append];by_cases h:x=s
   · subst h;rw [fB];simp [dV,List.flatMap_append,List.replicate_succ']
   · rw [eS _ _ _ _ h];simp [dV,List.flatMap_append]
theorem iF (l:List Int):dV (aU l)=l:=by
 have key:∀(l:List Int) (r:List (Int×Nat)),dV (l.foldl cU r)=dV r++l:=by
  intro l
  induction l with
  | nil=>intro r;simp
  | cons s l ih=>intro r;rw [List.foldl_cons,ih,aBA];simp
 have:=key l [];simpa [aU,dV] using this
def rT (r:List (Int×Nat)):Prop:=(∀x∈r,1<=x.2)/\r.Pairwise (fun _ _=>True)/\∀i a b,r[i]?=some a->r[i+1]?=some b->a.1≠b.1
theorem aCF (r:List (Int×Nat)) (s:Int) (h:rT r):rT (cU r s):=by
 obtain ⟨h1,_,h2⟩:=h;refine ⟨?_,List.pairwise_of_forall (by intros;trivial),?_⟩
 · rcases List.eq_nil_or_concat r with rfl |⟨q,⟨x,n⟩,rfl⟩
   · simp [cU]
   · rw [List.concat_eq_append] at*
     by_cases hx:x=s
     · subst hx;rw [fB];intro y hy;rcases zCo.1 hy with hy | hy;exact h1 y (List.mem_append_left _ hy)
       · have:=List.mem_singleton.1 hy;subst this;simp
     · rw [eS _ _ _ _ hx];intro y hy;rcases zCo.1 hy with hy | hy;exact h1 y hy
       · have:=List.mem_singleton.1 hy;subst this;simp
 · intro i a b ha hb;rcases List.eq_nil_or_concat r with rfl |⟨q,⟨x,n⟩,rfl⟩
   · simp [cU] at hb
   · rw [List.concat_eq_append] at*
     by_cases hx:x=s
     · subst hx;rw [fB] at ha hb;have hi:i+1 < (q++ [(x,n+1)]).length:=(zAc.1 hb).1;simp at hi;by_cases hl:i+1=q.length;rw [zAo oM,hl] at hb;simp at hb;rw [zAn oM] at ha;have:=h2 i a (x,n) (by rw [zAn oM];exact ha) (by rw [zAo oM,hl];simp);rw [<-hb];exact this
       · rw [zAn oM] at ha hb;exact h2 i a b (by rw [zAn oM];exact ha) (by rw [zAn oM];exact hb)
     rw [eS _ _ _ _ hx] at ha hb;have hi:i+1 < (q++ [(x,n)]++ [(s,1)]).length:=(zAc.1 hb).1;simp at hi;by_cases hl:i=q.length;subst hl;rw [zAn (by simp)] at ha;simp at ha;rw [zAo (by simp)] at hb;simp at hb;rw [<-ha,<-hb];exact hx;rw [zAn (by simp;omega)] at ha hb;exact h2 i a b ha hb
theorem rC (l:List Int):rT (aU l):=by
 have key:∀(l:List Int) (r:List (Int×Nat)),rT r->rT (l.foldl cU r):=by
  intro l
  induction l with
  | nil=>intro r h;exact h
  | cons s l ih=>intro r h;exact ih _ (aCF r s h)
 exact key l [] ⟨by simp,List.Pairwise.nil,by simp⟩
theorem aDc (r:List (Int×Nat)) (x:Int×Nat) (h:x∈r):x.2<=(dV r).length:=by
 induction r with
 | nil=>cases h
 | cons a r ih=>
   have e:dV (a::r)=List.replicate a.2 a.1++dV r:=(by simp [dV]);rw [e,zAi,zCm];rcases List.mem_cons.1 h with rfl | h;omega;have:=ih h;omega
theorem jA (l:List Int) (x:Int×Nat) (h:x∈aU l):x.2<=l.length:=by
 have:=aDc _ x h;rwa [iF] at this
def eG (s:Int):Prop:=0<=s/\s < 257
instance (s:Int):Decidable (eG s):=inferInstanceAs (Decidable (_/\_))
def bP (x:Int×Nat):List UInt8:=bK x.1.toNat++bK x.2
def cZ (r:List (Int×Nat)):List UInt8:=bK r.length++r.flatMap bP
def jL (l:List Int):Option (List UInt8):=if ∀x∈aU l,eG x.1 then some (cZ (aU l)) else none
theorem sA (x:Int×Nat):(bP x).length<=22:=by
 have:=bN x.1.toNat;have:=bN x.2;simp [bP];omega
theorem nW (r:List (Int×Nat)) (k:Nat) (x:Int×Nat) (h:r[k]?=some x):(r.take (k+1)).flatMap bP=(r.take k).flatMap bP++bP x:=by
 have hk:k < r.length:=(zAc.1 h).1;rw [List.take_succ_eq_append_getElem hk,(zAc.1 h).2];simp [List.flatMap_append]
theorem mE (r:List (Int×Nat)):(r.flatMap bP).length<=22*r.length:=by
 induction r with
 | nil=>simp
 | cons a r ih=>
   have:=sA a;rw [List.flatMap_cons,zAi,zCf];omega
def nX (b:List UInt8) (a:Nat):Option (Nat×Nat×Nat):=
 match eD (b.drop a) true 0 a with
 | none=>none
 | some (s,to)=>
   match eD (b.drop to) true 0 to with
   | none=>none
   | some (k,e)=>some (s,k,e)
def rgo (b:List UInt8) (mst:Nat):Nat->Nat->Nat->List Int->List Int×Int
 | 0,a,_,acc=>if a=b.length then (acc,0) else ([],4)
 | n+1,a,last,acc=>
   match nX b a with
   | none=>([],4)
   | some (s,k,e)=>if 257<=s∨s=last∨k=0 then ([],4) else if mst - acc.length < k then ([],3) else rgo b mst n e s (acc++List.replicate k (s:Int))
def lA (b:List UInt8) (most:Int):List Int×Int:=
 match eD b true 0 0 with
 | none=>([],4)
 | some (n,a)=>rgo b most.toNat n a 257 []
theorem uY (l:List UInt8):∀first acc pos n e,eD l first acc pos=some (n,e)->pos < e/\e<=pos+l.length/\n < 18446744073709551616:=by
 induction l with
 | nil=>intro first acc pos n e h;rw [eD] at h;cases h
 | cons c r ih=>
   intro first acc pos n e h
   rw [lB] at h;split at h
   · cases h
   · rename_i hc
     split at h
     · injection h with h;injection h with h1 h2;subst h1;subst h2;have hacc:acc<=144115188075855871:=(by rcases zBe 144115188075855871 acc with h | h;exact absurd (by simp [h]) hc;exact h);refine ⟨by omega,by simp,by omega⟩
     have:=ih _ _ _ _ _ h;simp only [zCf];omega
theorem oP (b:List UInt8) (a n e:Nat) (ha:a<=b.length) (h:eD (b.drop a) true 0 a=some (n,e)):eC b (a:Int)=(n,(e:Int),0):=by
 rw [eC,zBw oM];simp only [zBr,h]
theorem oQ (b:List UInt8) (a:Nat) (ha:a<=b.length) (h:eD (b.drop a) true 0 a=none):eC b (a:Int)=(0,(a:Int),4):=by
 rw [eC,zBw oM];simp only [zBr,h]
theorem aBf (b:List UInt8) (mst n a last:Nat) (acc:List Int) (h:nX b a=none):rgo b mst (n+1) a last acc=([],4):=by simp only [rgo,h]
theorem aBe (b:List UInt8) (mst n a last:Nat) (acc:List Int) (s k e:Nat) (h:nX b a=some (s,k,e)):
 rgo b mst (n+1) a last acc=if 257<=s∨s=last∨k=0 then ([],4) else if mst - acc.length < k then ([],3) else rgo b mst n e s (acc++List.replicate k (s:Int)):=by simp only [rgo,h]
theorem aBa (b:List UInt8) (a:Nat) (h:eD (b.drop a) true 0 a=none):nX b a=none:=by simp only [nX,h]
theorem aA9 (b:List UInt8) (a s to:Nat) (h:eD (b.drop a) true 0 a=some (s,to)) (h2:eD (b.drop to) true 0 to=none):nX b a=none:=by simp only [nX,h,h2]
theorem uI (b:List UInt8) (a s to k e:Nat) (h:eD (b.drop a) true 0 a=some (s,to)) (h2:eD (b.drop to) true 0 to=some (k,e)):nX b a=some (s,k,e):=by simp only [nX,h,h2]
end Go.Proofs.YtnhmjomhloainaaGreatDoor
namespace Go.Proofs.YtnhmjomhloainaaGreatDoor
open Go.RowKit
theorem aHh (w:World):(sizeOf 5).run Tryz.prog w=.ok 1 w:=by kernel_rfl
theorem qF (acc x:Nat) (h:acc<=144115188075855871) (hx:x < 256):bits .or .u64 ((acc:Int)*128) (IntKind.u64.wrap (bits .and .u8 (x:Int) 127))=((acc*128+x % 128:Nat):Int):=by
 have h1:bits .and .u8 (x:Int) 127=((x % 128:Nat):Int):=by have:=u8_and_nat x 127 hx oM;rw [nat_mask7] at this;exact this
 have h2:IntKind.u64.wrap ((x % 128:Nat):Int)=((x % 128:Nat):Int):=by rw [IntKind.wrap_u64];omega
 rw [h1,h2,show ((acc:Int)*128)=((acc*128:Nat):Int) by push_cast;rfl,u64_or_nat _ _ oM oM,nat_join 7 (acc*128) (x % 128) oM oM]
theorem mX {a:Nat} {b c:Int} {r:Nat×Int×Int} (h:r=(a,b,c)):Ending.returned (.tuple #[.int .u64 (a:Int),.int .i64 b,.int .i64 c])=Ending.returned (.tuple #[uv r.1,iv r.2.1,iv r.2.2]):=by subst h;rfl
theorem aBg {a:Nat} {v b b' c:Int} {r:Nat×Int×Int} (hv:v=(a:Int)) (hb:b'=b) (h:r=(a,b,c)):Ending.returned (.tuple #[.int .u64 v,.int .i64 b',.int .i64 c])=Ending.returned (.tuple #[uv r.1,iv r.2.1,iv r.2.2]):=by subst h;subst hv;subst hb;rfl
theorem aH0 (A:Option Addr) (m c:Nat) (l:List UInt8) (at_:Int) (B:Nat) (w:World) (hr:Rd w B 1 A m (l.map bv)) (hmc:m<=c) (hcl:c<=maxLen):
 Calls Tryz.prog 153 #[.slice A m c,.int .i64 at_] w fun e w'=>e=.returned (.tuple #[uv (eC l at_).1,iv (eC l at_).2.1,iv (eC l at_).2.2])/\w=w':=by
 unfold maxLen at hcl;have hlen:l.length=m:=by simpa using hr.1
 obtain ⟨Hlen,Hr⟩:=hqq2 hlen hr;clear hlen hr;by_cases hlo:at_ < 0
 · have hfin:eC l at_=(0,at_,2):=(by rw [eC,zBx (.inl hlo)]);have Hfin:=lhd hfin;clear hfin;go_enter Tryz.func153,Tryz.ntmps153;go_wp2;go_ret3;exact ⟨mX Hfin.out,rfl⟩
 by_cases hhi:(m:Int) < at_
 · have hfin:eC l at_=(0,at_,2):=(by rw [eC,zBx (.inr (by rw [Hlen.out];exact hhi))]);have Hfin:=lhd hfin;clear hfin;go_enter Tryz.func153,Tryz.ntmps153;go_wp2;go_ret3;exact ⟨mX Hfin.out,rfl⟩
 obtain ⟨k,rfl⟩:=Int.eq_ofNat_of_zero_le (Int.not_lt.1 hlo);have hkm:k<=m:=oM;have hfin:eC l (k:Int)=match eD (l.drop k) true 0 k with | some (n,p)=>(n,(p:Int),0)| none=>(0,(k:Int),4):=by rw [eC,zBw (by rw [Hlen.out];omega)];rfl
 have Hfin:=lhd hfin;have hc0:=Hr.out.cut (k:=k) (cap:=c) hkm hmc;have hcut:=oK (P:=Tryz.prog) 23 5 1 Tryz.underlying23 aHh A m c k hkm;generalize dX A c k 1=A' at hc0 hcut;have Hc:=lhd hc0;have hd1:decide ((k:Int) < 0)=false:=by simp
 have hd2:decide (m < k)=false:=by simp;omega
 clear hfin hlo hc0 hhi;go_enter Tryz.func153,Tryz.ntmps153;go_wp2
 go_loop [7,23] (fun n i=>∃j acc:Nat,j<=m - k/\i=.int .i64 j/\n=.int .u64 acc/\eD (l.drop (k+j)) (j==0) acc (k+j)=eD (l.drop k) true 0 k) (fun _ i=>m -(intOf i).toNat)
 case atStart=>exact ⟨0,0,zAp _,rfl,rfl,rfl⟩
 case round=>
  obtain ⟨j,acc,hj,rfl,rfl,hg⟩:=hrel;have Hg:=lhd hg;clear hg;by_cases hlt:j < m - k
  · obtain ⟨b,off,u,rfl,hbl,hu,hc⟩:=Hc.out.get hlt;have hx:∃x,l[k+j]?=some x:=⟨l[k+j]'(by have:=Hlen.out;omega),zAa (by have:=Hlen.out;omega)⟩;obtain ⟨x,hx⟩:=hx;simp only [zBl,zBt,zAf,hx,Option.map_some,Option.some.injEq] at hu;subst hu;unfold bv at hc;have hdr:l.drop (k+j)=x::l.drop (k+j+1):=(by have hl:k+j < l.length:=(by have:=Hlen.out;omega);rw [zAx hl];have:l[k+j]=x:=(zAc.1 hx).2;rw [this]);have hx256:x.toNat < 256:=x.toNat_lt;rw [hdr,lB] at Hg;clear hx hdr;go_wp2
    · have h0:(x.toNat:Int)=128:=(by assumption);have hj0:j=0:=(by assumption);go_ret3;refine ⟨mX ?_,rfl⟩;rw [Hfin.out,<-Hg.out,zBx (by simp;left;omega)]
    · have hj0:j=0:=(by assumption);have h1:((x.toNat:Int)==128)=true∨(144115188075855871:Int) < (acc:Int):=(by assumption);go_ret3;refine ⟨mX ?_,rfl⟩;rw [Hfin.out,<-Hg.out,zBx (by simp at h1⊢;omega)]
    · have hj0:j=0:=(by assumption);have h1:¬(x.toNat:Int)=128:=(by assumption);have h2:((x.toNat:Int)==128)=false/\(acc:Int)<=144115188075855871:=(by assumption);have h3:(x.toNat:Int) < 128:=(by assumption);subst hj0;go_ret3;refine ⟨aBg (qF acc _ oM hx256) ?_ (b:=((k+0+1:Nat):Int)) ?_,rfl⟩;push_cast;rfl
      · rw [Hfin.out,<-Hg.out,zBw (by simp;omega),zBx oM]
    have hj0:j=0:=(by assumption);have h1:¬(x.toNat:Int)=128:=(by assumption);have h2:((x.toNat:Int)==128)=false/\(acc:Int)<=144115188075855871:=(by assumption);have h3:(128:Int)<=(x.toNat:Int):=(by assumption);subst hj0;refine ⟨⟨0+1,acc*128+x.toNat % 128,by omega,rfl,gA (qF acc _ oM hx256),?_⟩,by simp [intOf];omega⟩;rw [<-Hg.out,zBw (by simp;omega),zBw oM];rfl
    · have hj0:¬j=0:=(by assumption);have h1:(144115188075855871:Int) < (acc:Int):=(by assumption);go_ret3;refine ⟨mX ?_,rfl⟩;rw [Hfin.out,<-Hg.out,zBx (by simp;omega)]
    · have hj0:¬j=0:=(by assumption);have h2:(acc:Int)<=144115188075855871:=(by assumption);have h3:(x.toNat:Int) < 128:=(by assumption);go_ret3;refine ⟨aBg (qF acc _ oM hx256) ?_ (b:=((k+j+1:Nat):Int)) ?_,rfl⟩;push_cast;rfl
      · rw [Hfin.out,<-Hg.out,zBw (by simp;omega),zBx oM]
    · have hj0:¬j=0:=(by assumption);have h2:(acc:Int)<=144115188075855871:=(by assumption);have h3:(128:Int)<=(x.toNat:Int):=(by assumption);refine ⟨⟨j+1,acc*128+x.toNat % 128,by omega,by go_num,gA (qF acc _ oM hx256),?_⟩,by simp [intOf];omega⟩;rw [<-Hg.out,zBw (by simp;omega),zBw oM];rfl
  · have hjm:j=m - k:=oM;have Hj:=lhd hjm;clear hjm;go_wp2;go_ret3;refine ⟨mX ?_,rfl⟩;have hd:l.drop (k+j)= []:=List.drop_eq_nil_of_le (by rw [Hlen.out];have:=Hj.out;omega);rw [Hfin.out,<-Hg.out,hd,eD]
theorem eV (A:Option Addr) (m c:Nat) (l:List UInt8) (at_:Int) (B:Nat) (w:World) (n:Nat) (p k:Int) (h:eC l at_=(n,p,k)) (hr:Rd w B 1 A m (l.map bv)) (hmc:m<=c) (hcl:c<=maxLen):
 Calls Tryz.prog 153 #[.slice A m c,.int .i64 at_] w fun e w'=>e=.returned (.tuple #[.int .u64 (n:Int),.int .i64 p,.int .i64 k])/\w=w':=
 (aH0 A m c l at_ B w hr hmc hcl).mono fun e w' ⟨he,hw⟩=>⟨by rw [he,h];rfl,hw⟩
end Go.Proofs.YtnhmjomhloainaaGreatDoor
namespace Go.Proofs.YtnhmjomhloainaaGreatDoor
def aQ {α:Type} (l:List α) (k:Nat) (x:α):List α:=l.take k++x::l.drop k
def aI {α:Type} (l:List α) (k:Nat):List α:=l.take k++l.drop (k+1)
theorem eQ {α:Type} (l:List α) {k:Nat} (x:α) (h:k<=l.length):(aQ l k x).length=l.length+1:=by
 unfold aQ;rw [zAi,zAj,zCf,zAw];omega
theorem dA {α:Type} (l:List α) {k:Nat} (h:k < l.length):(aI l k).length+1=l.length:=by
 unfold aI;rw [zAi,zAj,zAw];omega
theorem iB {α:Type} (l:List α) {k:Nat} (x:α) (h:k<=l.length) (j:Nat):(aQ l k x)[j]?=if j < k then l[j]? else if j=k then some x else l[j - 1]?:=by
 unfold aQ;have hl:(l.take k).length=k:=by rw [zAj];omega
 by_cases h1:j < k
 · rw [zBx h1,zAn oM,zBs,zBx h1]
 · rw [zBw h1,zAo oM,hl];by_cases h2:j=k;subst h2;rw [zBx rfl,Nat.sub_self];rfl
   · rw [zBw h2];obtain ⟨d,rfl⟩:∃d,j=k+d+1:=⟨j - k - 1,by omega⟩;rw [show k+d+1 - k=d+1 by omega,List.getElem?_cons_succ,zBt];congr 1
theorem eE {α:Type} (l:List α) {k:Nat} (h:k < l.length) (j:Nat):(aI l k)[j]?=if j < k then l[j]? else l[j+1]?:=by
 unfold aI;have hl:(l.take k).length=k:=by rw [zAj];omega
 by_cases h1:j < k
 · rw [zBx h1,zAn oM,zBs,zBx h1]
 rw [zBw h1,zAo oM,hl,zBt];congr 1;omega
theorem pU {α β:Type} (f:α->β) (l:List α) (k:Nat) (x:α):(aQ l k x).map f=aQ (l.map f) k (f x):=by simp [aQ]
theorem vG {α β:Type} (f:α->β) (l:List α) (k:Nat):(aI l k).map f=aI (l.map f) k:=by simp [aI]
theorem fG {α:Type} (l:List α) (k:Nat) (x:α):(aQ l k x).Perm (x::l):=by
 unfold aQ;exact (List.perm_middle).trans (by rw [zAu])
theorem iX {α:Type} {l:List α} {k:Nat} {x:α} (h:l[k]?=some x):(x::aI l k).Perm l:=by
 obtain ⟨hk,hx⟩:=zAc.1 h;have e:l=l.take k++x::l.drop (k+1):=by rw [<-hx,<-zAx hk,zAu]
 unfold aI;exact (List.perm_middle.symm).trans (by rw [<-e])
theorem nJ (l:List Bool) {k:Nat} (x:Bool) (h:k<=l.length) (j:Nat):(aQ l k x).getD j false=if j < k then l.getD j false else if j=k then x else l.getD (j - 1) false:=by
 rw [zAb,iB l x h];split
 · rw [zAb]
 · split;rfl
   · rw [zAb]
theorem nO (l:List Bool) {k:Nat} (h:k < l.length) (j:Nat):(aI l k).getD j false=if j < k then l.getD j false else l.getD (j+1) false:=by
 rw [zAb,eE l h];split
 · rw [zAb]
 · rw [zAb]
theorem aEc (l:List Bool) (n j:Nat):(l.take n).getD j false=(decide (j < n)&&l.getD j false):=by
 rw [zAb,zBs];by_cases h:j < n
 · rw [zBx h,zAb];simp [h]
 · rw [zBw h];simp [h]
theorem aEV (l:List Bool) (n j:Nat):(l.drop n).getD j false=l.getD (n+j) false:=by
 rw [zAb,zBt,zAb]
end Go.Proofs.YtnhmjomhloainaaGreatDoor
namespace Go.Proofs.YtnhmjomhloainaaGreatDoor
open Go.RowKit
theorem aCy (W:World) (z:Int):(convert 23 9 (.slice (some ⟨W.heap.size,0,none⟩) 1 1)).run Tryz.prog (W.alloc (.cells #[.int .u8 z] 5))=.ok (.string ⟨#[UInt8.ofNat z.toNat]⟩) (W.alloc (.cells #[.int .u8 z] 5)):=by
 have:=run_convert_bytes_arg (P:=Tryz.prog) (W.alloc (.cells #[.int .u8 z] 5)) 23 5 Tryz.underlying23 Tryz.underlying5 W.heap.size 0 1 1 [z] rfl (fun i hi=>by
  have:i=0:=oM;subst this;rw [(Bk.new W _ _).cell];rfl) 9 Tryz.underlying9
 rw [this];rfl
theorem aFX (n:Nat) (h:n < 18446744073709551616):UInt8.ofNat (bits BinOp.and IntKind.u64 (n:Int) 127 % 256).toNat=UInt8.ofNat (n % 128):=by
 have:=u64_and_nat n 127 h oM;rw [nat_mask7] at this;rw [show (127:Int)=((127:Nat):Int) from rfl,this];congr 1;omega
theorem aHm (m:Nat) (h:m < 18446744073709551616):UInt8.ofNat (bits BinOp.or IntKind.u8 (bits BinOp.and IntKind.u64 ((m:Int)/ 128) 127 % 256) 128).toNat=UInt8.ofNat (m / 128 % 128+128):=by
 have:=u64_and_nat (m / 128) 127 oM oM;rw [nat_mask7] at this;rw [show ((m:Int)/ 128)=((m / 128:Nat):Int) by omega,show (127:Int)=((127:Nat):Int) from rfl,this,aH4];congr 1;omega
theorem aFE (a:UInt8) (x:List UInt8):(⟨#[a]⟩:ByteArray)++⟨x.toArray⟩=⟨(a::x).toArray⟩:=by
 apply ByteArray.ext;rw [ByteArray.data_append];simp
theorem cS (x y:List UInt8):(⟨x.toArray⟩:ByteArray)++⟨y.toArray⟩=⟨(x++y).toArray⟩:=by
 apply ByteArray.ext;rw [ByteArray.data_append];simp
theorem aCJ (n:Nat) (w:World) (hn:n < 18446744073709551616):
 Calls Tryz.prog 77 #[.int .u64 (n:Int)] w fun e w'=>e=.returned (.string ⟨(bK n).toArray⟩)/\Below w.heap.size w w':=by
 have H:=lhd hn;clear hn;have hst:=aCy;go_enter Tryz.func77,Tryz.ntmps77;go_wp2;go_loopw [0,3] (fun v s wr=>∃(m:Nat) (x:List UInt8),m < 18446744073709551616/\v=.int .u64 (m:Int)/\s=.string ⟨x.toArray⟩/\jW 10 (m / 128)++x=bK n/\Below w.heap.size w wr) (fun v _ _=>(intOf v).toNat)
 case atStart=>exact ⟨n, [UInt8.ofNat (n % 128)],H.out,rfl,by rw [aFX n H.out],rfl,bR.alloc nL _⟩
 case round=>
  obtain ⟨m,x,hm,rfl,rfl,hx,hb⟩:=hrel;obtain ⟨Hm,Hx⟩:=hqq2 hm hx;have hs:=hb.size;have hx11:x.length<=11:=by have:=bN n;rw [<-hx,zAi] at this;omega
  clear hm hx;go_wp2
  · have hge:(128:Int)<=(m:Int):=(by assumption);refine ⟨⟨m / 128,UInt8.ofNat (m / 128 % 128+128)::x,by have:=Hm.out;omega,gA oM,?_,?_,hb.alloc hs _⟩,by simp [intOf];omega⟩
    · rw [aHm m Hm.out,aFE]
    rw [<-Hx.out,yS (m / 128) oM (by have:=Hm.out;omega),zCn];rfl
  · have hlt:(m:Int) < 128:=(by assumption);go_ret;refine ⟨?_,hb⟩;have h0:m / 128=0:=oM;have hx:=Hx.out;rw [h0,mY,List.nil_append] at hx;rw [<-hx];rfl
theorem fE (n:Nat) (w:World) (bs:List UInt8) (h:bK n=bs) (hn:n < 18446744073709551616):
 Calls Tryz.prog 77 #[.int .u64 (n:Int)] w fun e w'=>e=.returned (.string ⟨bs.toArray⟩)/\Below w.heap.size w w':=by
 subst h;exact aCJ n w hn
structure Told where
 code:Int
 num:Int
 data:List UInt8
 places:List Nat
def aHl (r:Told) (A1:Option Addr) (c1:Nat) (A2:Option Addr) (c2:Nat):Array Value:=#[.int .i64 r.code,.int .i64 r.num,.slice A1 r.data.length c1,.slice A2 r.places.length c2]
def lP (kind p k:Int) (AD:Option Addr) (nd cd:Nat):Value:=.agg #[.int .i64 kind,.int .i64 p,.int .i64 k,.slice AD nd cd]
theorem mD (w:World) (B:Nat) (e:TypeId):Made w B e 1 none 0 0 []:=⟨World.ownsRow_nil _ _ _ _,Rd.nil _ _ _ _,zAs _,zAp _⟩
def nV (n:Nat) (p k:Int):Bool:=decide (0<=p/\0<=k/\p<=(n:Int)/\k<=(n:Int) - p)
def doM (T:List UInt8) (most kind p k:Int) (D:List UInt8):List UInt8×Told:=
 if kind=1 then
    if nV T.length p 0=false then (T,⟨2,0, [], []⟩) else if most -(T.length:Int) < (D.length:Int) then (T,⟨3,0, [], []⟩) else (T.take p.toNat++(D++T.drop p.toNat),⟨0,0, [], []⟩)
 else if kind=2 then
    if nV T.length p k=false then (T,⟨2,0, [], []⟩) else (T.take p.toNat++T.drop (p.toNat+k.toNat),⟨0,0, [], []⟩)
 else if kind=5 then
    if nV T.length p k=false then (T,⟨2,0, [], []⟩) else (T,⟨0,0,(T.drop p.toNat).take k.toNat, []⟩)
 else if kind=3 then
    if nV T.length p (D.length:Int)=false then (T,⟨2,0, [], []⟩) else (T.take p.toNat++(D++T.drop (p.toNat+D.length)),⟨0,0, [], []⟩)
 else if kind=4 then (T,⟨0,(T.length:Int), [], []⟩)
 else if kind=6 then (T,⟨0,((kG T D).length:Int), [], []⟩)
 else if kind=7 then (T,⟨0,((kG T D).length:Int), [],kG T D⟩)
 else if kind=8 then (T,⟨0,0, [], []⟩)
 else (T,⟨1,0, [], []⟩)
theorem aDX {n:Nat} {p k:Int} (h:nV n p k=true):∃a b:Nat,p=(a:Int)/\k=(b:Int)/\a+b<=n:=by
 unfold nV at h;have:=of_decide_eq_true h;exact ⟨p.toNat,k.toNat,by omega,by omega,by omega⟩
end Go.Proofs.YtnhmjomhloainaaGreatDoor
namespace Go.Proofs.YtnhmjomhloainaaGreatDoor
open Go.RowKit Go
section
variable {P : Program} {ops : Array Oper} {Q : Exit -> Act -> World -> Prop} {md : Region.Mode}
def vO (md:Region.Mode) (ops:Array Oper) (i j:Nat):Bool:=match ops[i]? with
 | some o=>o.after.toList.any (fun e=>Region.binds md e&&e.on==j)
 | none=>false
def dI (P:Program) (ops:Array Oper) (Q:Exit->Act->World->Prop) (md:Region.Mode) (C:World->Prop) (S:Nat->World->World->Prop) (U:Nat->World->Prop) (V:Nat->Value->World->Prop) (a0:Act) (j:Nat) (o:Oper):Prop:=
 ∀a w,C w->U j w->a.tmps.size=a0.tmps.size->a.defers=a0.defers->
    (∀t,sY md ops j t=true->a.tmps.getD t undef=a0.tmps.getD t undef)->
    (∀e∈o.after,Region.binds md e=true->∀p d,ops[e.on]?=some p->p.dst=some d->V e.on (a.tmps.getD d undef) w)->
    ∀K:Act->World->Prop,(∀v w',S j w w'->V j v w'->K (a.put o.dst v) w')->wpOp P ops Q j K a w
theorem pA {C:World->Prop} {S:Nat->World->World->Prop} {U:Nat->World->Prop} {V:Nat->Value->World->Prop} {a0:Act} {j:Nat} {o:Oper} (ho:ops[j]?=some o) (hg:o.guard=none)
 (h:∀ev:Operand->Value,∀w,C w->U j w->(∀v,ev (.const v)=v)->(∀f,ev (.func f)=.func (.func f) #[] #[])->(∀t,sY md ops j t=true->ev (.tmp t)=a0.eval (.tmp t))->
  (∀i d,o.after.toList.any (fun e=>Region.binds md e&&e.on==i)=true->((ops[i]?).bind (·.dst))=some d->V i (ev (.tmp d)) w)->
  ∀a K,a.eval=ev->(∀v w',S j w w'->V j v w'->K (a.put o.dst v) w')->Oper.upon P o a K Q ((execOp ev o).run P w)):dI P ops Q md C S U V a0 j o:=by
 intro a w hS hU hsz hdf hold hval K hK;unfold wpOp;simp only [ho];have hw:Region.wanted o (yielded ops a.tmps)=true:=by unfold Region.wanted;rw [hg]
 rw [zBx hw];refine .inl (h a.eval w hS hU (fun _=>rfl) (fun _=>rfl) (fun t ht=>hold t ht) (fun i d hi hd=>?_) a K rfl hK);obtain ⟨e,he,h2⟩:=List.any_eq_true.1 hi;simp only [zBd,zCp] at h2;obtain ⟨h3,rfl⟩:=h2;cases hp:ops[e.on]? with
 | none=>rw [hp] at hd;cases hd
 | some p=>rw [hp] at hd;exact hval e (Array.mem_toList_iff.1 he) h3 p d hp hd
theorem sC3 {P:Program} {ops:Array Oper} {Q:Exit->Act->World->Prop} {md:Region.Mode} {C:World->Prop} {S:Nat->World->World->Prop} {U:Nat->World->Prop} {V:Nat->Value->World->Prop} {a0:Act} {k:Nat} {o:Oper} {l:List Oper} (h:∀ev:Operand->Value,∀w,C w->U k w->(∀v,ev (.const v)=v)->(∀f,ev (.func f)=.func (.func f) #[] #[])->(∀t,sY md ops k t=true->ev (.tmp t)=a0.eval (.tmp t))->(∀i d,o.after.toList.any (fun e=>Region.binds md e&&e.on==i)=true->((ops[i]?).bind (·.dst))=some d->V i (ev (.tmp d)) w)->∀a K,a.eval=ev->(∀v w',S k w w'->V k v w'->K (a.put o.dst v) w')->Oper.upon P o a K Q ((execOp ev o).run P w)) (hl:∀j p,l[j]?=some p->dI P ops Q md C S U V a0 (k+1+j) p) (ho:ops[k]?=some o:=by rfl) (hg:o.guard=none:=by rfl):∀j p,(o::l)[j]?=some p->dI P ops Q md C S U V a0 (k+j) p:=aA (pA ho hg h) hl
theorem pW3 {P:Program} {ops:Array Oper} {Q:Exit->Act->World->Prop} {md:Region.Mode} {C:World->Prop} {S:Nat->World->World->Prop} {U:Nat->World->Prop} {V:Nat->Value->World->Prop} {a0:Act} {k:Nat} {o:Oper} {l:List Oper} (i d j c:Nat) (hl:∀j p,l[j]?=some p->dI P ops Q md C S U V a0 (k+1+j) p) (ho:ops[k]?=some o:=by rfl) (hg:o.guard=none:=by rfl) (hb:o.after.toList.any (fun e=>Region.binds md e&&e.on==i)=true:=by kernel_rfl) (hd:((ops[i]?).bind (·.dst))=some d:=by rfl) (hb2:o.after.toList.any (fun e=>Region.binds md e&&e.on==j)=true:=by kernel_rfl) (hd2:((ops[j]?).bind (·.dst))=some c:=by rfl) (h:∀(ev:Operand->Value) (w:World),(∀v,ev (.const v)=v)->(∀f,ev (.func f)=.func (.func f) #[] #[])->V i (ev (.tmp d)) w->V j (ev (.tmp c)) w->∀(a:Act) (K:Act->World->Prop),a.eval=ev->(∀v w',S k w w'->V k v w'->K (a.put o.dst v) w')->Oper.upon P o a K Q ((execOp ev o).run P w):=by (intro ev w hc hf e0 f0 a K ha hK;have e:_=_:=e0;have f:_=_:=f0;go_simp;first|exact kq hK rfl|exact hK _ _ (VisK.refl _ _) rfl|exact hK _ _ (Below.refl _ _) rfl|exact hK _ _ (aH (VisK.refl _ _)) rfl)):∀j p,(o::l)[j]?=some p->dI P ops Q md C S U V a0 (k+j) p:=aA (pA ho hg fun ev w _ _ hc hf hold hval a K ha hK=>h ev w hc hf (hval i d hb hd) (hval j c hb2 hd2) a K ha hK) hl
theorem pV3 {P:Program} {ops:Array Oper} {Q:Exit->Act->World->Prop} {md:Region.Mode} {C:World->Prop} {S:Nat->World->World->Prop} {U:Nat->World->Prop} {V:Nat->Value->World->Prop} {a0:Act} {k:Nat} {o:Oper} {l:List Oper} (i d:Nat) (hl:∀j p,l[j]?=some p->dI P ops Q md C S U V a0 (k+1+j) p) (ho:ops[k]?=some o:=by rfl) (hg:o.guard=none:=by rfl) (hb:o.after.toList.any (fun e=>Region.binds md e&&e.on==i)=true:=by kernel_rfl) (hd:((ops[i]?).bind (·.dst))=some d:=by rfl) (h:∀(ev:Operand->Value) (w:World),(∀v,ev (.const v)=v)->(∀f,ev (.func f)=.func (.func f) #[] #[])->V i (ev (.tmp d)) w->∀(a:Act) (K:Act->World->Prop),a.eval=ev->(∀v w',S k w w'->V k v w'->K (a.put o.dst v) w')->Oper.upon P o a K Q ((execOp ev o).run P w):=by (intro ev w hc hf e0 a K ha hK;have e:_=_:=e0;go_simp;first|exact kq hK rfl|exact hK _ _ (VisK.refl _ _) rfl|exact hK _ _ (Below.refl _ _) rfl|exact hK _ _ (aH (VisK.refl _ _)) rfl)):∀j p,(o::l)[j]?=some p->dI P ops Q md C S U V a0 (k+j) p:=aA (pA ho hg fun ev w _ _ hc hf hold hval a K ha hK=>h ev w hc hf (hval i d hb hd) a K ha hK) hl
theorem pH3 {P:Program} {ops:Array Oper} {Q:Exit->Act->World->Prop} {md:Region.Mode} {C:World->Prop} {S:Nat->World->World->Prop} {U:Nat->World->Prop} {V:Nat->Value->World->Prop} {a0:Act} {k:Nat} {o:Oper} {l:List Oper} (t:Nat) (x:Value) (hl:∀j p,l[j]?=some p->dI P ops Q md C S U V a0 (k+1+j) p) (ho:ops[k]?=some o:=by rfl) (hg:o.guard=none:=by rfl) (hb:sY md ops k t=true:=by kernel_rfl) (hx:a0.eval (.tmp t)=x:=by rfl) (h:∀(ev:Operand->Value) (w:World),(∀v,ev (.const v)=v)->(∀f,ev (.func f)=.func (.func f) #[] #[])->ev (.tmp t)=x->∀(a:Act) (K:Act->World->Prop),a.eval=ev->(∀v w',S k w w'->V k v w'->K (a.put o.dst v) w')->Oper.upon P o a K Q ((execOp ev o).run P w):=by (intro ev w hc hf e a K ha hK;go_simp;first|exact kq hK rfl|exact hK _ _ (VisK.refl _ _) rfl|exact hK _ _ (Below.refl _ _) rfl|exact hK _ _ (aH (VisK.refl _ _)) rfl)):∀j p,(o::l)[j]?=some p->dI P ops Q md C S U V a0 (k+j) p:=aA (pA ho hg fun ev w _ _ hc hf hold hval a K ha hK=>h ev w hc hf ((hold t hb).trans hx) a K ha hK) hl
end
end Go.Proofs.YtnhmjomhloainaaGreatDoor
