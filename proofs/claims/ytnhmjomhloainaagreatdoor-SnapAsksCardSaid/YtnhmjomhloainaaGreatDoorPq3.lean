/- Parts of the walk, joined from several texts. Conditions: what each lemma says. -/
import Derived.Test.YtnhmjomhloainaaGreatDoorPq2
set_option linter.all false
set_option maxRecDepth 100000
set_option maxHeartbeats 1000000
namespace Go.Proofs.YtnhmjomhloainaaGreatDoor
def fP (q:List (Int×Nat)):List UInt8:=q.flatMap bP
theorem pX (x:Int×Nat) (q:List (Int×Nat)):fP (x::q)=bP x++fP q:=by simp [fP]
theorem sF (x:Int×Nat) (q:List (Int×Nat)):dV (x::q)=List.replicate x.2 x.1++dV q:=by simp [dV]
def aD6:Nat->List (Int×Nat)->Prop
 | _, []=>True
 | last,x::q=>(eG x.1/\x.1.toNat≠last/\1<=x.2/\x.2 < 18446744073709551616)/\aD6 x.1.toNat q
theorem aEw (b:List UInt8) (a:Nat) (x:Int×Nat) (r:List UInt8) (h1:eG x.1) (h2:x.2 < 18446744073709551616) (h:b.drop a=bP x++r):nX b a=some (x.1.toNat,x.2,a+(bP x).length):=by
 have e1:=nK x.1.toNat (by have:=h1.2;omega) (bK x.2++r) a;rw [bP,zCn] at h;rw [<-h] at e1;have hd:b.drop (a+(bK x.1.toNat).length)=bK x.2++r:=by rw [<-List.drop_drop,h,List.drop_left]
 have e2:=nK x.2 h2 r (a+(bK x.1.toNat).length);rw [<-hd] at e2;rw [uI _ _ _ _ _ _ e1 e2,bP,zAi,Nat.add_assoc]
theorem aFT (b:List UInt8) (mst n':Nat) (t:List UInt8):∀(q:List (Int×Nat)) (a last:Nat) (acc:List Int),b.drop a=fP q++t->aD6 last q->acc.length+(dV q).length<=mst->
 ∃last',rgo b mst (q.length+n') a last acc=rgo b mst n' (a+(fP q).length) last' (acc++dV q):=by
 intro q
 induction q with
 | nil=>intro a last acc _ _ _;exact ⟨last,by simp [fP,dV]⟩
 | cons x q ih=>
   intro a last acc h hc hm;obtain ⟨⟨c1,c2,c3,c4⟩,c5⟩:=hc;rw [pX,zCn] at h;have hr:=aEw b a x _ c1 c4 h;rw [sF,zAi,zCm] at hm;have e0:(x::q).length+n'=(q.length+n')+1:=(by simp;omega);rw [e0,aBe _ _ _ _ _ _ _ _ _ hr,zBw (by have:=c1.1;have:=c1.2;omega),zBw oM];have hx:((x.1.toNat:Nat):Int)=x.1:=(by have:=c1.1;omega);rw [hx];have hd:b.drop (a+(bP x).length)=fP q++t:=(by rw [<-List.drop_drop,h,List.drop_left]);obtain ⟨l',hl'⟩:=ih (a+(bP x).length) x.1.toNat (acc++List.replicate x.2 x.1) hd c5 (by rw [zAi,zCm];omega);refine ⟨l',?_⟩;rw [hl',pX,sF,zAi,zCn,Nat.add_assoc]
theorem aGN (q:List (Int×Nat)) (h:rT q) (hs:∀x∈q,eG x.1/\x.2 < 18446744073709551616) (last:Nat) (hl:∀x,q[0]?=some x->x.1.toNat≠last):aD6 last q:=by
 induction q generalizing last with
 | nil=>trivial
 | cons x q ih=>
   obtain ⟨h1,_,h3⟩:=h;refine ⟨⟨(hs x (List.mem_cons_self ..)).1,hl x rfl,h1 x (List.mem_cons_self ..),(hs x (List.mem_cons_self ..)).2⟩,?_⟩;refine ih ⟨fun y hy=>h1 y (List.mem_cons_of_mem _ hy),List.pairwise_of_forall (by intros;trivial),fun i a b ha hb=>h3 (i+1) a b (by simpa using ha) (by simpa using hb)⟩ (fun y hy=>hs y (List.mem_cons_of_mem _ hy)) _ ?_;intro y hy;have:=h3 0 x y rfl (by simpa using hy);have hx:=(hs x (List.mem_cons_self ..)).1;have hy':=(hs y (List.mem_cons_of_mem _ (zAd hy))).1;have:=hx.1;have:=hy'.1;omega
theorem aDk (l:List Int) (hs:∀x∈aU l,eG x.1) (hl:l.length < 18446744073709551616):aD6 257 (aU l):=
 aGN _ (rC l) (fun x hx=>⟨hs x hx,by have:=jA l x hx;omega⟩) 257 fun x hx=>by have:=(hs x (zAd hx)).2;have:=(hs x (zAd hx)).1;omega
theorem zN (l:List Int) (hl:l.length < 18446744073709551616):(aU l).length < 18446744073709551616:=by have:=gN l;omega
theorem kZ (l:List Int) (hs:∀x∈aU l,eG x.1) (hl:l.length < 18446744073709551616) (most:Int) (hm:(l.length:Int)<=most) (t:List UInt8):
 lA (cZ (aU l)++t) most=if t= [] then (l,0) else ([],4):=by
 have e1:=nK (aU l).length (zN l hl) (fP (aU l)++t) 0;have hb:cZ (aU l)++t=bK (aU l).length++(fP (aU l)++t):=by simp [cZ,fP]
 rw [hb,lA,e1];simp only [zBi];have hd:(bK (aU l).length++(fP (aU l)++t)).drop (bK (aU l).length).length=fP (aU l)++t:=List.drop_left;have hex:=iF l;obtain ⟨l',hl'⟩:=aFT _ most.toNat 0 t (aU l) _ 257 [] hd (aDk l hs hl) (by rw [hex];simp;omega);rw [zBq] at hl';rw [hl',hex,List.nil_append,rgo];by_cases ht:t= []
 · subst ht;rw [zBx (by simp),zBx rfl]
 · have:0 < t.length:=List.length_pos_iff.2 ht;rw [zBw (by simp;omega),zBw ht]
end Go.Proofs.YtnhmjomhloainaaGreatDoor
namespace Go.Proofs.YtnhmjomhloainaaGreatDoor
open Go.RowKit
theorem aEL (acc x k:Nat) (h:acc < 256 ^ k) (hx:x < 256) (hk:k < 4):bits .or .u32 (acc:Int) ((x:Int)*2 ^(8*k)% 4294967296)=((acc+x*256 ^ k:Nat):Int):=by
 have e:(256:Nat)^ k=2 ^(8*k):=by rw [Nat.pow_mul]
 have hp:x*256 ^ k < 4294967296:=by have h1:x*256 ^ k<=255*256 ^ k:=Nat.mul_le_mul_right _ oM;have h2:256 ^ k<=256 ^ 3:=zBp oM oM;omega
 have hacc:acc < 4294967296:=by have h2:256 ^ k<=256 ^ 3:=zBp oM oM;omega
 have e2:((x:Int)*2 ^(8*k)% 4294967296)=((x*256 ^ k:Nat):Int):=by
  rw [e] at hp⊢;have:(x:Int)*2 ^(8*k)=((x*2 ^(8*k):Nat):Int):=by push_cast;rfl
  rw [this];omega
 rw [e2,u32_or_nat _ _ hacc hp,Nat.or_comm,nat_join (8*k) (x*256 ^ k) acc (by rw [e];exact Nat.mul_mod_left _ _) (by rw [<-e];exact h),zCq]
theorem aFg (n:Nat) (w:World):
 Calls Tryz.prog 72 #[.int .u32 (n:Int)] w fun e w'=>∃v,e=.returned v/\w'.ownsRow w.heap.size 5 1 v 4 ((jJ n).map bv)/\Below w.heap.size w w':=by
 obtain ⟨i0,hi0,hz0,hz1,hz2⟩:=info_parts jO;go_enter Tryz.func72,Tryz.ntmps72;go_wp2;go_loopw [0,3,4] (fun x v i wr=>∃k:Nat,k<=4/\i=.int .i64 k/\x=.int .u32 ((n / 256 ^ k:Nat):Int)/\wr.ownsRow w.heap.size 5 1 v k ((uZ k n).map bv)/\Below w.heap.size w wr) (fun _ _ i _=>4 -(intOf i).toNat)
 case atStart=>exact ⟨0,zAp _,rfl,by simp,World.ownsRow_nil _ _ _ _,Below.refl _ _⟩
 case round=>
  obtain ⟨k,hk,rfl,rfl,hown,hb⟩:=hrel;have hb2:=hb.size;by_cases hlt:k < 4
  · generalize hm:n / 256 ^ k=m;have Hm:=lhd hm;clear hm;go_wp2_with (at_builtin;refine aY _ rfl (.tmp 6) (.tmp 9) _ rfl w.heap.size 5 i0 (.int .u8 0) 1 1 Tryz.underlying23 hi0 hz0 hz1 hz2 rfl dC u3 k _ rfl hown rfl rfl (by simp [Value.oneCell']) (by unfold maxLen;omega) oM hb2 ?_;intro v2 w2 hown2 hg2 hs2 hat2);have hb3:=aW hb hown hg2 hb2;refine ⟨⟨k+1,by omega,by go_num,gA ?_,?_,hb3⟩,by simp [intOf];omega⟩;rw [Nat.pow_succ,<-Nat.div_div_eq_div_mul,Hm.out];push_cast;rfl;have hv:Value.int .u8 ((m:Int)% 256)=bv (UInt8.ofNat (m % 256)):=(by unfold bv;congr 1;simp [UInt8.toNat_ofNat']);rw [hv] at hown2;rw [uZ,Hm.out];simpa using hown2
  · have h4:k=4:=oM;subst h4;go_wp2;go_ret;exact ⟨u3,rfl,hown,hb⟩
theorem zH (n:Nat) (w:World):
 Calls Tryz.prog 72 #[.int .u32 (n:Int)] w fun e w'=>∃A' c',e=.returned (.slice A' 4 c')/\Made w' w.heap.size 5 1 A' 4 c' ((jJ n).map bv)/\Below w.heap.size w w':=by
 refine (aFg n w).mono fun e w' ⟨v,he,ho,hb⟩=>?_;obtain ⟨A',c',rfl,hm⟩:=aS ho;exact ⟨A',c',he,hm,hb⟩
theorem zQ {a:Nat} {v b:Int} {r:Nat×Int} (hv:v=(a:Int)) (h:r=(a,b)):Ending.returned (.tuple #[.int .u32 v,.int .i64 b])=Ending.returned (.tuple #[.int .u32 (r.1:Int),iv r.2]):=by subst h;subst hv;rfl
theorem aII (A:Option Addr) (m c:Nat) (l:List UInt8) (at_:Int) (B:Nat) (w:World) (hr:Rd w B 1 A m (l.map bv)) (hcl:m<=maxLen):
 Calls Tryz.prog 84 #[.slice A m c,.int .i64 at_] w fun e w'=>e=.returned (.tuple #[.int .u32 ((ofB l at_).1:Int),iv (ofB l at_).2])/\w=w':=by
 unfold maxLen at hcl;have hlen:l.length=m:=by simpa using hr.1
 obtain ⟨Hlen,Hr⟩:=hqq2 hlen hr;clear hlen hr;by_cases hlo:at_ < 0
 · have hfin:ofB l at_=(0,2):=(by rw [ofB,zBx (.inl hlo)]);have Hfin:=lhd hfin;clear hfin;go_enter Tryz.func84,Tryz.ntmps84;go_wp2;go_ret2;exact ⟨zQ rfl Hfin.out,rfl⟩
 by_cases hhi:(m:Int) < at_
 · have hfin:ofB l at_=(0,2):=(by rw [ofB,zBx (.inr (by rw [Hlen.out];exact hhi))]);have Hfin:=lhd hfin;clear hfin;go_enter Tryz.func84,Tryz.ntmps84;go_wp2;go_ret2;exact ⟨zQ rfl Hfin.out,rfl⟩
 by_cases hsh:(m:Int) - at_ < 4
 · have hfin:ofB l at_=(0,4):=(by rw [ofB,zBw (by rw [Hlen.out];omega),zBx (by rw [Hlen.out];omega)]);have Hfin:=lhd hfin;clear hfin;go_enter Tryz.func84,Tryz.ntmps84;go_wp2;go_ret2;exact ⟨zQ rfl Hfin.out,rfl⟩
 obtain ⟨a,rfl⟩:=Int.eq_ofNat_of_zero_le (Int.not_lt.1 hlo);have hfin:ofB l (a:Int)=(ofN l a 4,0):=by rw [ofB,zBw (by rw [Hlen.out];omega),zBw (by rw [Hlen.out];omega)];rfl
 have Hfin:=lhd hfin;have ham:a+4<=m:=oM;have hd1:decide ((a:Int) < 0)=false:=by simp
 have hd2:decide (m < a)=false:=by simp;omega
 have hd3:decide ((m:Int) -(a:Int) < 4)=false:=by simp;omega
 clear hfin hlo hhi hsh;go_enter Tryz.func84,Tryz.ntmps84;go_wp2
 go_loop [6,23] (fun n i=>∃k:Nat,k<=4/\i=.int .i64 k/\n=.int .u32 (ofN l a k:Int)) (fun _ i=>4 -(intOf i).toNat)
 case atStart=>exact ⟨0,zAp _,rfl,rfl⟩
 case round=>
  obtain ⟨k,hk,rfl,rfl⟩:=hrel;by_cases hlt:k < 4
  · obtain ⟨b,off,u,rfl,hbl,hu,hc⟩:=Hr.out.get (k:=a+k) oM;have hx:∃x,l[a+k]?=some x:=⟨l[a+k]'(by have:=Hlen.out;omega),zAa (by have:=Hlen.out;omega)⟩;obtain ⟨x,hx⟩:=hx;simp only [zAf,hx,Option.map_some,Option.some.injEq] at hu;subst hu;unfold bv at hc;have hs:ofN l a (k+1)=ofN l a k+x.toNat*256 ^ k:=(by rw [ofN,hx];rfl);have hlt2:=aIn l a k;obtain ⟨Hs,Hlt2⟩:=hqq2 hs hlt2;generalize ofN l a k=acc at*
    have hx256:x.toNat < 256:=x.toNat_lt;clear hx hs hlt2;go_wp2;refine ⟨⟨k+1,by omega,by go_num,gA ?_⟩,by simp [intOf];omega⟩;rw [Hs.out];exact aEL acc x.toNat k Hlt2.out hx256 hlt
  · have h4:k=4:=oM;subst h4;go_wp2;go_ret2;exact ⟨zQ rfl Hfin.out,rfl⟩
theorem aH8 (A:Option Addr) (m c:Nat) (l:List UInt8) (at_:Int) (B:Nat) (w:World) (n:Nat) (k:Int) (h:ofB l at_=(n,k)) (hr:Rd w B 1 A m (l.map bv)) (hcl:m<=maxLen):
 Calls Tryz.prog 84 #[.slice A m c,.int .i64 at_] w fun e w'=>e=.returned (.tuple #[.int .u32 (n:Int),.int .i64 k])/\w=w':=
 (aII A m c l at_ B w hr hcl).mono fun e w' ⟨he,hw⟩=>⟨by rw [he,h];rfl,hw⟩
end Go.Proofs.YtnhmjomhloainaaGreatDoor
namespace Go.Proofs.YtnhmjomhloainaaGreatDoor
def pL (x k:Nat) (b:Bool):Nat:=(x % 2 ^ k|||(if b then 2 ^ k else 0))|||(x&&&(18446744073709551615 - x % 2 ^ k))*2 % 18446744073709551616
def mG (x k:Nat) (b:Bool):Nat:=(x % 2 ^ k|||(x / 2&&&(18446744073709551615 - x / 2 % 2 ^ k)))|||(if b then 9223372036854775808 else 0)
theorem aDP (y j:Nat) (hy:y < 18446744073709551616):(18446744073709551615 - y).testBit j=(decide (j < 64)&& !y.testBit j):=by
 have:=Nat.testBit_two_pow_sub_succ (n:=64) (x:=y) oM j;rw [<-this];congr 1;omega
theorem aGn (x k j:Nat):(x % 2 ^ k).testBit j=(decide (j < k)&&x.testBit j):=Nat.testBit_mod_two_pow _ _ _
theorem aDL (k j:Nat):(2 ^ k).testBit j=decide (k=j):=Nat.testBit_two_pow
theorem aHN (z j:Nat):(z*2 % 18446744073709551616).testBit j=(decide (j < 64)&&(decide (0 < j)&&z.testBit (j - 1))):=by
 have h:(18446744073709551616:Nat)=2 ^ 64:=dC;rw [h,aGn];congr 1;rcases j with _ | j
 · simp
 · rw [Nat.testBit_succ,Nat.mul_div_cancel _ (by decide:0 < 2)];simp
theorem uS (x k:Nat) (hx:x < 18446744073709551616):x % 2 ^ k < 18446744073709551616:=Nat.lt_of_le_of_lt (Nat.mod_le _ _) hx
theorem aIt (x j:Nat) (hx:x < 18446744073709551616) (hj:64<=j):x.testBit j=false:=Nat.testBit_lt_two_pow (zAl hx (zBp (n:=2) dC hj))
theorem zU (x k j:Nat) (b:Bool) (hx:x < 18446744073709551616) (hk:k < 64):(pL x k b).testBit j=if j < k then x.testBit j else if j=k then b else (decide (j < 64)&&x.testBit (j - 1)):=by
 unfold pL;rw [Nat.testBit_or,Nat.testBit_or,aHN,Nat.testBit_and,aDP _ _ (uS x k hx),aGn,aGn];have hb:(if b then 2 ^ k else 0:Nat).testBit j=(decide (k=j)&&b):=by
  cases b
  · simp
  · simp [aDL]
 rw [hb];by_cases h1:j < k
 · have h3:decide (j - 1 < k)=true:=zBz oM;have h4:decide (k=j)=false:=zBy oM;rw [zBx h1,zBz h1,h3,h4];cases hx0:x.testBit j <;> cases hx1:x.testBit (j - 1)<;> simp
 · rw [zBw h1,zBy h1];by_cases h2:j=k
   · subst h2;rw [zBx rfl];by_cases h0:j=0
     · subst h0;simp
     · have h3:decide (j - 1 < j)=true:=zBz oM;rw [h3];cases hx1:x.testBit (j - 1)<;> simp
   · have h3:decide (j - 1 < k)=false:=zBy oM;have h4:decide (k=j)=false:=zBy oM;have h5:decide (0 < j)=true:=zBz oM;rw [zBw h2,h3,h4,h5];by_cases h6:j < 64
     · have h7:decide (j - 1 < 64)=true:=zBz oM;rw [h7];simp
     · simp [h6]
theorem aAg (x k j:Nat) (b:Bool) (hx:x < 18446744073709551616) (hk:k < 64):(mG x k b).testBit j=if j < k then x.testBit j else if j < 63 then x.testBit (j+1) else (decide (j=63)&&b):=by
 unfold mG;have hd:x / 2 < 18446744073709551616:=Nat.lt_of_le_of_lt (Nat.div_le_self _ _) hx;have hd2:∀i,(x / 2).testBit i=x.testBit (i+1):=fun i=>by rw [Nat.testBit_succ]
 rw [Nat.testBit_or,Nat.testBit_or,Nat.testBit_and,aDP _ _ (uS _ k hd),aGn,aGn,hd2];have hb:(if b then 9223372036854775808 else 0:Nat).testBit j=(decide (j=63)&&b):=by
  cases b
  · simp
  rw [zBx rfl,show (9223372036854775808:Nat)=2 ^ 63 by decide,aDL,Bool.and_true];congr 1;exact propext eq_comm
 rw [hb];by_cases h1:j < k
 · have h4:decide (j=63)=false:=zBy oM;rw [zBx h1,zBz h1,h4];cases hx0:x.testBit j <;> cases hx1:x.testBit (j+1)<;> simp
 · rw [zBw h1,zBy h1];by_cases h2:j < 63
   · have h4:decide (j=63)=false:=zBy oM;have h5:decide (j < 64)=true:=zBz oM;rw [zBx h2,h4,h5];simp
   · rw [zBw h2,aIt x (j+1) hx oM];simp
theorem iM (l:List Bool) (j:Nat):(w0 l).testBit j=(decide (j < 64)&&l.getD j false):=by unfold w0;rw [jD,aEc]
theorem gC (l:List Bool) (j:Nat):(w1 l).testBit j=l.getD (64+j) false:=by unfold w1;rw [jD,aEV]
theorem tP (l:List Bool) (j:Nat) (h:l.length<=j):l.getD j false=false:=by
 rw [zAb,zBg h];rfl
theorem aIk (l:List Bool) (k:Nat) (b:Bool) (hk:k<=l.length) (hl:l.length<=127) (h:k < 64):w0 (aQ l k b)=pL (w0 l) k b/\w1 (aQ l k b)=pL (w1 l) 0 (l.getD 63 false):=by
 constructor
 · refine Nat.eq_of_testBit_eq fun j=>?_;rw [zU _ _ _ _ (lS l) h,iM,iM,iM,nJ l b hk];by_cases h1:j < k
   · rw [zBx h1,zBx h1]
   · rw [zBw h1,zBw h1];by_cases h2:j=k
     · rw [zBx h2,zBx h2,zBz oM,Bool.true_and]
     · rw [zBw h2,zBw h2];by_cases h3:j < 64
       · rw [zBz h3,zBz (show j - 1 < 64 by omega),Bool.true_and,Bool.true_and]
       · rw [zBy h3,Bool.false_and,Bool.false_and]
 · refine Nat.eq_of_testBit_eq fun j=>?_;rw [zU _ _ _ _ (lO l oM) dC,gC,gC,nJ l b hk,zBw oM,zBw oM,zBw oM];by_cases h2:j=0
   · subst h2;rw [zBx rfl]
   · rw [zBw h2,show 64+j - 1=64+(j - 1) by omega,gC];by_cases h3:j < 64
     · rw [zBz h3,Bool.true_and]
     rw [zBy h3,Bool.false_and];exact tP l _ oM
theorem aIl (l:List Bool) (k:Nat) (b:Bool) (hk:k<=l.length) (hl:l.length<=127) (h:64<=k):w0 (aQ l k b)=w0 l/\w1 (aQ l k b)=pL (w1 l) (k - 64) b:=by
 constructor
 · refine Nat.eq_of_testBit_eq fun j=>?_;rw [iM,iM,nJ l b hk];by_cases h3:j < 64
   · rw [zBz h3,zBx oM]
   · rw [zBy h3,Bool.false_and,Bool.false_and]
 · refine Nat.eq_of_testBit_eq fun j=>?_;rw [zU _ _ _ _ (lO l oM) oM,gC,gC,gC,nJ l b hk];by_cases h1:j < k - 64
   · rw [zBx oM,zBx h1]
   · rw [zBw oM,zBw h1];by_cases h2:j=k - 64
     · rw [zBx oM,zBx h2]
     · rw [zBw oM,zBw h2,show 64+j - 1=64+(j - 1) by omega];by_cases h3:j < 64
       · rw [zBz h3,Bool.true_and]
       rw [zBy h3,Bool.false_and];exact tP l _ oM
theorem aIx (l:List Bool) (k:Nat) (hk:k < l.length) (hl:l.length<=128) (h:k < 64):w0 (aI l k)=mG (w0 l) k (l.getD 64 false)/\w1 (aI l k)=mG (w1 l) 0 false:=by
 constructor
 · refine Nat.eq_of_testBit_eq fun j=>?_;rw [aAg _ _ _ _ (lS l) h,iM,iM,iM,nO l hk];by_cases h1:j < k
   · rw [zBx h1,zBx h1]
   · rw [zBw h1,zBw h1];by_cases h2:j < 63
     · rw [zBx h2,zBz (show j < 64 by omega),zBz (show j+1 < 64 by omega)]
     · rw [zBw h2];by_cases h3:j=63;subst h3;rfl
       · rw [zBy h3,zBy (show ¬j < 64 by omega),Bool.false_and,Bool.false_and]
 · refine Nat.eq_of_testBit_eq fun j=>?_;rw [aAg _ _ _ _ (lO l hl) dC,gC,gC,nO l hk,zBw oM,zBw oM,Bool.and_false];by_cases h2:j < 63
   · rw [zBx h2,show 64+j+1=64+(j+1) by omega,gC]
   rw [zBw h2];exact tP l _ oM
theorem cut_hi (l:List Bool) (k:Nat) (hk:k < l.length) (hl:l.length<=128) (h:64<=k):w0 (aI l k)=w0 l/\w1 (aI l k)=mG (w1 l) (k - 64) false:=by
 constructor
 · refine Nat.eq_of_testBit_eq fun j=>?_;rw [iM,iM,nO l hk];by_cases h3:j < 64
   · rw [zBz h3,zBx oM]
   · rw [zBy h3,Bool.false_and,Bool.false_and]
 · refine Nat.eq_of_testBit_eq fun j=>?_;rw [aAg _ _ _ _ (lO l hl) oM,gC,gC,gC,nO l hk,Bool.and_false];by_cases h1:j < k - 64
   · rw [zBx oM,zBx h1]
   · rw [zBw oM,zBw h1,show 64+j+1=64+(j+1) by omega];by_cases h2:j < 63
     · rw [zBx h2]
     rw [zBw h2];exact tP l _ oM
theorem aHa (x:Nat) (hx:x < 18446744073709551616):decide (x / 9223372036854775808=1)=x.testBit 63:=by
 rw [Nat.testBit_eq_decide_div_mod_eq];have:x / 2 ^ 63 % 2=x / 9223372036854775808:=by rw [show (2:Nat)^ 63=9223372036854775808 by decide];omega
 rw [this]
end Go.Proofs.YtnhmjomhloainaaGreatDoor
namespace Go.Proofs.YtnhmjomhloainaaGreatDoor
open Go.RowKit
theorem aA2 (W:World) (a b c d:Int):(convert 23 9 (.slice (some ⟨W.heap.size,0,none⟩) 4 4)).run Tryz.prog (W.alloc (.cells #[.int .u8 a,.int .u8 b,.int .u8 c,.int .u8 d] 5))=
 .ok (.string ⟨#[UInt8.ofNat a.toNat,UInt8.ofNat b.toNat,UInt8.ofNat c.toNat,UInt8.ofNat d.toNat]⟩) (W.alloc (.cells #[.int .u8 a,.int .u8 b,.int .u8 c,.int .u8 d] 5)):=by
 have:=run_convert_bytes_arg (P:=Tryz.prog) (W.alloc (.cells #[.int .u8 a,.int .u8 b,.int .u8 c,.int .u8 d] 5)) 23 5 Tryz.underlying23 Tryz.underlying5 W.heap.size 0 4 4 [a,b,c,d] rfl (fun i hi=>by
  rw [zBi,(Bk.new W _ _).cell]
  match i,hi with
  | 0,_=>rfl
  | 1,_=>rfl
  | 2,_=>rfl
  | 3,_=>rfl) 9 Tryz.underlying9
 rw [this];rfl
theorem zR (n:Nat) (w:World) (hn:n < 4294967296):
 Calls Tryz.prog 82 #[.int .u32 (n:Int)] w fun e w'=>e=.returned (.string ⟨(jJ n).toArray⟩)/\Below w.heap.size w w':=by
 have hst:=aA2;go_enter Tryz.func82,Tryz.ntmps82;go_wp2;go_ret;refine ⟨?_,bR.alloc nL _⟩;show Ending.returned (.string _)=_;simp only [jJ,uZ,List.nil_append,List.cons_append,Nat.reducePow,Nat.div_one];have h4:n / 16777216 % 256=n / 16777216:=oM;rw [h4]
theorem mA (n:Nat) (w:World) (bs:List UInt8) (h:jJ n=bs) (hn:n < 4294967296):
 Calls Tryz.prog 82 #[.int .u32 (n:Int)] w fun e w'=>e=.returned (.string ⟨bs.toArray⟩)/\Below w.heap.size w w':=by
 subst h;exact zR n w hn
end Go.Proofs.YtnhmjomhloainaaGreatDoor
namespace Go.Proofs.YtnhmjomhloainaaGreatDoor
def pP (t:List UInt8) (k:Nat) (m:List UInt8):List UInt8:=t.take k++(m++t.drop k)
theorem aGj (t:List UInt8) (k:Nat):pP t k []=t:=by
 unfold pP;rw [List.nil_append,zAu]
theorem uR (t:List UInt8) {k:Nat} (m:List UInt8) (hk:k<=t.length):(pP t k m).length=t.length+m.length:=by
 unfold pP;rw [zAi,zAi,zAj,zAw];omega
theorem aGk (t:List UInt8) {k:Nat} (m:List UInt8) (c:UInt8) (hk:k<=t.length):aQ (pP t k m) (k+m.length) c=pP t k (m++ [c]):=by
 have hl:(t.take k).length=k:=by rw [zAj];omega
 unfold aQ pP;rw [List.take_append,List.drop_append,hl,Nat.add_sub_cancel_left,List.take_append_of_le_length nL,List.take_length,List.drop_append_of_le_length nL,List.drop_length,zAg oM,List.drop_of_length_le oM];simp
theorem aGF (t:List UInt8) {p j:Nat} (h:p+j < t.length):aI (t.take p++t.drop (p+j)) p=t.take p++t.drop (p+(j+1)):=by
 have hl:(t.take p).length=p:=by rw [zAj];omega
 unfold aI;rw [List.take_append_of_le_length oM,zAg oM,List.drop_append,hl,List.drop_of_length_le oM,show p+1 - p=1 by omega,List.nil_append,List.drop_drop];rfl
theorem aD0 (t:List UInt8) {p j:Nat} (h:p+j<=t.length):(t.take p++t.drop (p+j)).length=t.length - j:=by
 rw [zAi,zAj,zAw];omega
end Go.Proofs.YtnhmjomhloainaaGreatDoor
namespace Go.Proofs.YtnhmjomhloainaaGreatDoor
open Go.RowKit Go
section
variable {P : Program} {ops : Array Oper} {Q : Exit -> Act -> World -> Prop} {md : Region.Mode}
def upB (md:Region.Mode) (ops:Array Oper):Nat->Nat->Nat->Bool
 | 0,_,_=>false
 | f+1,j,i=>match ops[j]? with
   | some o=>o.after.toList.any fun e=>Region.binds md e&&(e.on==i||upB md ops f e.on i)
   | none=>false
theorem iZ {listed:Array Bool} (hs:∀k p,ops[k]?=some p->listed.getD k false=true->∀e∈p.after,Region.binds md e=true->listed.getD e.on false=true):
 ∀f j i o,ops[j]?=some o->(∀e∈o.after,Region.binds md e=true->listed.getD e.on false=true)->upB md ops f j i=true->listed.getD i false=true:=by
 intro f
 induction f with
 | zero=>intro j i o _ _ h;cases h
 | succ f ih=>
   intro j i o ho ha h;unfold upB at h;rw [ho] at h;obtain ⟨e,he,h2⟩:=List.any_eq_true.1 h;simp only [zBd,Bool.or_eq_true,zCp] at h2;have hl:=ha e (Array.mem_toList_iff.1 he) h2.1;rcases h2.2 with h3 | h3;rw [<-h3];exact hl
   · cases hp:ops[e.on]? with
     | none=>
       exfalso;cases f with
       | zero=>cases h3
       | succ f=>unfold upB at h3;rw [hp] at h3;cases h3
     | some p=>exact ih e.on i p hp (hs e.on p hp hl) h3
structure Loose7 (md:Region.Mode) (ops:Array Oper) (C:World->Prop) (U:Nat->World->Prop) (V:Nat->Value->World->Prop) (a0:Act) (listed:Array Bool) (a:Act) (w:World):Prop where
 world:C w
 pre:∀j o,ops[j]?=some o->listed.getD j false=false->U j w
 size:a.tmps.size=a0.tmps.size
 defers:a.defers=a0.defers
 old:∀t,(∀k p,ops[k]?=some p->p.dst=some t->listed.getD k false=false)->a.tmps.getD t undef=a0.tmps.getD t undef
 val:∀i o,ops[i]?=some o->listed.getD i false=true->∃v,(∀d,o.dst=some d->a.tmps.getD d undef=v)/\V i v w
 shut:∀k p,ops[k]?=some p->listed.getD k false=true->∀e∈p.after,Region.binds md e=true->listed.getD e.on false=true
theorem zI (C:World->Prop) (S:Nat->World->World->Prop) (U:Nat->World->Prop) (V:Nat->Value->World->Prop) (a0:Act)
 (W0:World) (hlaid:iA md ops a0.tmps.size=true) (hC0:C W0) (hU0:∀i,U i W0) (hC:∀j w w',C w->S j w w'->C w') (hU:∀i j w w',i≠j->upB md ops ops.size j i=false->U i w->C w->S j w w'->U i w')
 (hstab:∀i j v w w',i≠j->vO md ops i j=false->V i v w->C w->S j w w'->V i v w')
 (hstep:∀j o,ops[j]?=some o->dI P ops Q md C S U V a0 j o)
 (hend:∀a w,C w->a.tmps.size=a0.tmps.size->a.defers=a0.defers->
  (∀t,(∀(k:Nat) (p:Oper),ops[k]?=some p->p.dst≠some t)->a.tmps.getD t undef=a0.tmps.getD t undef)->
  (∀i o,ops[i]?=some o->∃v,(∀d,o.dst=some d->a.tmps.getD d undef=v)/\V i v w)->Q .normal a w):
 wpAny P md ops Q ops.size (Array.replicate ops.size false) a0 W0:=by
 have done:∀listed a w,listed.size=ops.size->(∀i,i < ops.size->listed.getD i false=true)->Loose7 md ops C U V a0 listed a w->Q .normal a w:=by intro listed a w hl hall h;refine hend a w h.world h.size h.defers (fun t ht=>h.old t fun k p hp hd=>absurd hd (ht k p hp)) fun i o ho=>h.val i o ho (hall i (zAh.1 ho).1)
 have none_ready:∀listed:Array Bool,listed.size=ops.size->Region.ready md ops listed= []->∀i,i < ops.size->listed.getD i false=true:=by
  intro listed hl hr i
  induction i using Nat.strongRecOn with
  | _ i ih=>
    intro hi;cases hc:listed.getD i false with
    | true=>rfl
    | false=>
      exfalso;have hm:i∈Region.ready md ops listed:=(by refine mem_ready.2 ⟨?_,ops[i],zAq hi,fun e he hb=>?_⟩;have hi':i < listed.size:=oM;simp [hi'] at hc⊢;exact hc;have:=(dR hlaid (zAq hi)).1 e he hb;exact ih e.on this oM);rw [hr] at hm;cases hm
 have main:∀fuel listed a w,listed.size=ops.size->listed.toList.count false<=fuel->Loose7 md ops C U V a0 listed a w->wpAny P md ops Q fuel listed a w:=by
  intro fuel
  induction fuel with
  | zero=>
    intro listed a w hl hc h
    have hall:∀i,i < ops.size->listed.getD i false=true:=by
        intro i hi;have hi':i < listed.size:=oM;cases hv:listed.getD i false with
        | true=>rfl
        | false=>
          exfalso;have:false∈listed.toList:=(by simp [hi'] at hv;exact hv ▸(by simp));have:=List.count_pos_iff.2 this;omega
    refine ⟨?_,done listed a w hl hall h⟩;cases hr:Region.ready md ops listed with
    | nil=>rfl
    | cons i l=>
      exfalso;have hi:i∈Region.ready md ops listed:=(by rw [hr];exact List.mem_cons_self ..);obtain ⟨h0,o,ho,_⟩:=mem_ready.1 hi;have hlt:i < ops.size:=(zAh.1 ho).1;have h1:=hall i hlt;have hi':i < listed.size:=oM;simp [hi'] at h0 h1;rw [h0] at h1;cases h1
  | succ fuel ih=>
    intro listed a w hl hc h;refine ⟨fun hr=>done listed a w hl (none_ready listed hl hr) h,fun j hj=>?_⟩;obtain ⟨h0,o,ho,haft⟩:=mem_ready.1 hj;have hlt:j < ops.size:=(zAh.1 ho).1;have hjl:j < listed.size:=oM;have h0':listed.getD j false=false:=(by simp [hjl] at h0⊢;exact h0);refine hstep j o ho a w h.world (h.pre j o ho h0') h.size h.defers (fun t ht=>h.old t fun k p hp hd=>?_) (fun e he hb p d hp hd=>by obtain ⟨v,h1,h2⟩:=h.val e.on p hp (haft e he hb);rw [h1 d hd];exact h2) _ fun v w' hS hV=>?_
    · rcases tN ht hp hd with rfl |⟨e,he,hb,heq⟩;exact h0'
      · cases hk:listed.getD k false with
        | false=>rfl
        | true=>
          have:=h.shut k p hp hk e he hb;rw [heq,h0'] at this;cases this
    · refine ih _ _ _ (by simpa using hl) ?_ ?_;have hv:listed.toList[j]'(by simpa using hjl)=false:=(by simp [hjl] at h0'⊢;exact h0');rw [Array.toList_setIfInBounds,List.count_set (by simpa using hjl),hv];simp;have hm:false∈listed.toList:=hv ▸ zBj _;have:=List.count_pos_iff.2 hm;rw [<-Array.count_toList];omega
      · have hsz:(a.put o.dst v).tmps.size=a0.tmps.size:=by
          rw [<-h.size];cases o.dst with
          | none=>rfl
          | some d=>simp [Act.put]
        refine ⟨hC j w w' h.world hS,fun i p hp hi=>?_,hsz,?_,fun t ht=>?_,fun i p hp hi=>?_,fun k p hp hk e he hb=>?_⟩
        · have hji:i≠j:=fun e=>by rw [e,bI _ _ hjl] at hi;cases hi
          rw [getD_set_ne false hji.symm] at hi;refine hU i j w w' hji ?_ (h.pre i p hp hi) h.world hS;cases hup:upB md ops ops.size j i with
          | false=>rfl
          | true=>
            have:=iZ h.shut _ j i o ho haft hup;rw [hi] at this;cases this
        · rw [<-h.defers];cases o.dst <;> rfl
        · have hne:o.dst≠some t:=fun hd=>by have:=ht j o ho hd;rw [bI _ _ hjl] at this;cases this
          have hold:=h.old t fun k p hp hd=>by
           have:=ht k p hp hd;cases hk:listed.getD k false with
           | false=>rfl
           | true=>
             by_cases hjk:j=k
             · subst hjk;rw [h0'] at hk;cases hk
             · rw [getD_set_ne false hjk,hk] at this;cases this
          rw [<-hold];cases hod:o.dst with
          | none=>rfl
          | some d=>
            have hdt:d≠t:=fun h=>hne (by rw [hod,h]);simp [Act.put,zAm,hdt]
        · rcases eH _ _ _ hi with rfl | hi1
          · rw [ho] at hp;injection hp with hp;subst hp;refine ⟨v,fun d hd=>?_,hV⟩;have hdl:=((dR hlaid ho).2 d hd).1;rw [hd];have:d < a.tmps.size:=(by rw [h.size];exact hdl);simp [Act.put,zAm,this]
          · by_cases hij:i=j
            · subst hij;rw [h0'] at hi1;cases hi1
            obtain ⟨u,hu,hv⟩:=h.val i p hp hi1
            have haf:vO md ops i j=false:=by
              cases hc:vO md ops i j with
              | false=>rfl
              | true=>
                exfalso;unfold vO at hc;rw [hp] at hc;obtain ⟨e,he,h2⟩:=List.any_eq_true.1 hc;simp only [zBd,zCp] at h2;have:=h.shut i p hp hi1 e (Array.mem_toList_iff.1 he) h2.1;rw [h2.2,h0'] at this;cases this
            refine ⟨u,fun d hd=>?_,hstab _ _ _ _ _ hij haf hv h.world hS⟩;rw [<-hu d hd];cases hod:o.dst with
            | none=>rfl
            | some d'=>
              have hdt:d'≠d:=fun h=>hij (((dR hlaid ho).2 d' hod).2 i p hp (h ▸ hd));simp [Act.put,zAm,hdt]
        rcases eH _ _ _ hk with rfl | hk;rw [ho] at hp;injection hp with hp;subst hp;have h1:=haft e he hb;by_cases hje:k=e.on;rw [<-hje];exact bI _ _ hjl _;rw [getD_set_ne false hje];exact h1;have h1:=h.shut k p hp hk e he hb;by_cases hje:j=e.on;rw [<-hje];exact bI _ _ hjl _;rw [getD_set_ne false hje];exact h1
 refine main _ _ _ _ (by simp) (by simp) ⟨hC0,fun j _ _ _=>hU0 j,rfl,rfl,fun _ _=>rfl,fun i o ho hi=>?_,fun k p hp hk=>?_⟩
 · have hlt:i < ops.size:=(zAh.1 ho).1;simp [hlt] at hi
 · have hlt:k < ops.size:=(zAh.1 hp).1;simp [hlt] at hk
theorem oW (ds:List Nat) (C:World->Prop) (S:Nat->World->World->Prop) (U:Nat->World->Prop) (V:Nat->Value->World->Prop) (a0:Act) (W0:World)
 (hds:ops.toList.filterMap (·.dst)=ds)
 (hlaid:iA md ops a0.tmps.size=true) (hC0:C W0) (hU0:∀i,U i W0) (hC:∀j w w',C w->S j w w'->C w') (hU:∀i j w w',i≠j->upB md ops ops.size j i=false->U i w->C w->S j w w'->U i w')
 (hstab:∀i j v w w',i≠j->vO md ops i j=false->V i v w->C w->S j w w'->V i v w')
 (hstep:∀j o,ops[j]?=some o->dI P ops Q md C S U V a0 j o)
 (hend:∀(ev:Operand->Value) w,C w->(∀i d,((ops[i]?).bind (·.dst))=some d->V i (ev (.tmp d)) w)->(∀i,i < ops.size->∃v,V i v w)->Q .normal (aO ev ds a0) w):
 wpAny P md ops Q ops.size (Array.replicate ops.size false) a0 W0:=by
 refine zI C S U V a0 W0 hlaid hC0 hU0 hC hU hstab hstep fun a w hS hsz hdf hold hval=>?_;have h1:=hend a.eval w hS (fun i d hd=>by
  cases ho:ops[i]? with
  | none=>rw [ho] at hd;cases hd
  | some o=>
    rw [ho] at hd;obtain ⟨v,h1,h2⟩:=hval i o ho;have:=h1 d hd;change V i (a.tmps.getD d undef) w;rw [this];exact h2) (fun i hi=>by
  obtain ⟨v,_,h2⟩:=hval i _ (zAq hi);exact ⟨v,h2⟩)
 rw [<-mK a a0 ds hsz hdf fun t ht=>hold t fun k p hp hd=>ht ?_] at h1;exact h1;rw [<-hds];exact List.mem_filterMap.2 ⟨p,Array.mem_toList_iff.2 (Array.mem_of_getElem? hp),hd⟩
end
def oF (F:Nat->Prop) (J j:Nat) (w w':World):Prop:=(j=J->Keep F w w')/\(j≠J->Grow w w')
theorem iV {F:Nat->Prop} {J j:Nat} {w w':World} (h:oF F J j w w'):Keep F w w':=by
 by_cases hj:j=J;exact h.1 hj;exact Keep.of_below (h.2 hj)
theorem aP {F:Nat->Prop} {J j:Nat} {w w':World} (h:Grow w w'):oF F J j w w':=⟨fun _=>Keep.of_below h,fun _=>h⟩
theorem kq {F:Nat->Prop} {J j:Nat} {w:World} {V Q:Value->World->Prop} (hK:∀v w',oF F J j w w'->V v w'->Q v w') {v:Value} (h:V v w):Q v w:=hK v w (aP bR) h
theorem bG {F:Nat->Prop} {J:Nat} {w w':World} (h:Keep F w w'):oF F J J w w':=⟨fun _=>h,fun e=>absurd rfl e⟩
def xM (F:Nat->Prop) (p:Value->World->Prop):Prop:=∀v w w',p v w->Keep F w w'->p v w'
theorem cL (F:Nat->Prop) (c:Value):xM F (is c):=fun _ _ _ h _=>h
theorem uE {F:Nat->Prop} {l:List (Value->World->Prop)} (h:∀p∈l,xM F p):∀i v w w',Vs l i v w->Keep F w w'->Vs l i v w':=by
 intro i v w w' hv hk;unfold Vs at hv⊢;rw [zAb] at hv⊢;cases hl:l[i]? with
 | none=>simp
 | some p=>rw [hl] at hv;simp only [Option.getD_some] at hv⊢;exact h p (zAd hl) v w w' hv hk
def VsJ (J:Nat) (pJ:Value->World->Prop) (l:List (Value->World->Prop)) (i:Nat):Value->World->Prop:=if i=J then pJ else Vs l i
theorem cB {P:Program} {ops:Array Oper} {Q:Exit->Act->World->Prop} {md:Region.Mode} (ds:List Nat) (F:Nat->Prop) (J:Nat) (rd:List Nat) (pre:World->Prop) (pJ:Value->World->Prop) (l:List (Value->World->Prop)) (a0:Act) (W0:World)
 (hds:ops.toList.filterMap (·.dst)=ds) (hlaid:iA md ops a0.tmps.size=true)
 (hrd:(rd.all fun i=>i==J||upB md ops ops.size J i)=true)
 (hp0:pre W0) (hp:∀w w',pre w->Keep F W0 w->Grow w w'->pre w') (hJ:Stb pJ) (hst:∀p∈l,xM F p)
 (hstep:∀j o,ops[j]?=some o->dI P ops Q md (Keep F W0) (oF F J) (fun i w=>rd.contains i=true->pre w) (VsJ J pJ l) a0 j o)
 (hend:∀(ev:Operand->Value) w,Keep F W0 w->(∀i d,((ops[i]?).bind (·.dst))=some d->VsJ J pJ l i (ev (.tmp d)) w)->(∀i,i < ops.size->∃v,VsJ J pJ l i v w)->Q .normal (aO ev ds a0) w):
 wpAny P md ops Q ops.size (Array.replicate ops.size false) a0 W0:=by
 refine oW ds (Keep F W0) (oF F J) (fun i w=>rd.contains i=true->pre w) (VsJ J pJ l) a0 W0 hds hlaid (Keep.refl _ _) (fun _ _=>hp0) (fun j w w' h k=>h.trans (iV k)) (fun i j w w' hij hup hi hC k hir=>?_) (fun i j v w w' hij _ hv _ k=>?_) hstep hend;by_cases hj:j=J;exfalso;subst hj;have h2:=zBf.1 hrd i (by simpa using hir);simp only [hup,Bool.or_false,zCp] at h2;exact hij h2;exact hp w w' (hi hir) hC (k.2 hj);unfold VsJ at hv⊢;by_cases hi:i=J;rw [zBx hi] at hv⊢;exact hJ v w w' hv (k.2 fun e=>hij (hi.trans e.symm));rw [zBw hi] at hv⊢;exact uE hst i v w w' hv (iV k)
theorem rF {F:Nat->Prop} {w w':World} {base sz n:Nat} {e:TypeId} {v:Value} {xs:List Value} (h:w.ownsRow base e sz v n xs) (k:Keep F w w') (hf:∀b,F b->b < base):w'.ownsRow base e sz v n xs:=by
 refine ⟨h.1,?_⟩;rcases h.2 with h1 |⟨g,cap,cur,h1,h2,h3,h4⟩;exact .inl h1;exact .inr ⟨g,cap,cur,h1,h2,(k.block g (lt_of_block h3) (fun f=>by have:=hf g f;omega)).trans h3,h4⟩
theorem Made.keepF {F:Nat->Prop} {w w':World} {base sz n c:Nat} {e:TypeId} {A:Option Addr} {xs:List Value} (h:Made w base e sz A n c xs) (k:Keep F w w') (hf:∀b,F b->b < base):Made w' base e sz A n c xs:=
 ⟨rF h.own k hf,Rd.of_own (rF h.own k hf),h.cap,h.max⟩
theorem Made.mono {w:World} {B B' sz n c:Nat} {e:TypeId} {A:Option Addr} {xs:List Value} (h:Made w B e sz A n c xs) (hB:B'<=B):Made w B' e sz A n c xs:=⟨bX h.own hB,h.rd,h.cap,h.max⟩
def aGl (B:Nat) (e:TypeId) (sz n:Nat) (xs:List Value):Value->World->Prop:=fun v w=>∃A c,v=.slice A n c/\Made w B e sz A n c xs
theorem aEj {F:Nat->Prop} {B:Nat} (hf:∀b,F b->b < B) (e:TypeId) (sz n:Nat) (xs:List Value):xM F (aGl B e sz n xs):=fun _ _ _ ⟨A,c,h1,h2⟩ k=>⟨A,c,h1,h2.keepF k hf⟩
def pO (F:Nat->Prop) (e:TypeId) (cs:Array Value) (mk:Nat->Value):Value->World->Prop:=fun v w=>∃g,v=mk g/\Bk w g e cs/\¬F g
theorem kP (F:Nat->Prop) (e:TypeId) (cs:Array Value) (mk:Nat->Value):xM F (pO F e cs mk):=fun _ _ _ ⟨g,h1,h2,h3⟩ k=>⟨g,h1,k.bk h2 h3,h3⟩
def dJ:Value->World->Prop:=fun _ _=>True
theorem bV (F:Nat->Prop):xM F dJ:=fun _ _ _ _ _=>trivial
end Go.Proofs.YtnhmjomhloainaaGreatDoor
namespace Go.Proofs.YtnhmjomhloainaaGreatDoor
def cQ (s:Nat):Nat:=if s % 2=1 then (s / 2)^^^ 3988292384 else s / 2
def dB:Nat->Nat->Nat
 | 0,s=>s
 | k+1,s=>cQ (dB k s)
def iN (i:Nat):Nat:=dB 8 i
def jQ:List UInt8->Nat->Nat
 | [],s=>s
 | c::r,s=>jQ r (iN ((s % 256)^^^ c.toNat)^^^(s / 256))
def aAh (s:Nat) (b:List UInt8):Nat:=4294967295 - jQ b (4294967295 - s)
def gJ (b:List UInt8):Nat:=aAh 0 b
theorem aDf {s:Nat} (h:s < 4294967296):cQ s < 4294967296:=by
 unfold cQ;split;exact Nat.xor_lt_two_pow (n:=32) oM oM;omega
theorem qB {s:Nat} (h:s < 4294967296):∀k,dB k s < 4294967296
 | 0=>h
 | k+1=>aDf (qB h k)
theorem yY {i:Nat} (h:i < 256):iN i < 4294967296:=qB oM 8
theorem aGI {s:Nat} (h:s < 4294967296) (c:UInt8):(s % 256)^^^ c.toNat < 256:=Nat.xor_lt_two_pow (n:=8) oM c.toNat_lt
theorem aGH {s:Nat} (h:s < 4294967296) (c:UInt8):iN ((s % 256)^^^ c.toNat)^^^(s / 256) < 4294967296:=
 Nat.xor_lt_two_pow (n:=32) (yY (aGI h c)) oM
theorem mH:∀(b:List UInt8) (s:Nat),s < 4294967296->jQ b s < 4294967296
 | [],_,h=>h
 | c::r,s,h=>mH r _ (aGH h c)
theorem oT:∀(b:List UInt8) (c:UInt8) (s:Nat),jQ (b++ [c]) s=iN ((jQ b s % 256)^^^ c.toNat)^^^(jQ b s / 256)
 | [],_,_=>rfl
 | d::r,c,s=>oT r c _
theorem qC (b:List UInt8):gJ b < 4294967296:=by
 unfold gJ aAh;have:=mH b (4294967295 - 0) oM;omega
def dK (b:List UInt8):List UInt8:=bK b.length++(b++jJ (gJ b))
def eW:List UInt8:= [83,75,82,49]
def sX (rs:List Nat) (rate N:Nat):List UInt8:=(List.range (N / rate+1)).flatMap fun k=>bK (rs.idxOf (k*rate))
def eO (L:List Nat):List Int:=L.map fun n:Nat=>(n:Int)
def eU (L:List Nat):List UInt8:=cZ (aU (eO L))
def kH (L rs:List Nat) (most rate N:Nat):List UInt8:=eW++(dH [most,rate,N]++(dK (eU L)++dK (sX rs rate N)))
def cG (L rs:List Nat) (most rate N:Nat):List UInt8:=kH L rs most rate N++jJ (gJ (kH L rs most rate N))
theorem uP {b a r:List UInt8} {n at_ to:Nat} (h:b=a++(bK n++r)) (ha:a.length=at_) (ht:at_+(bK n).length=to) (hn:n < 18446744073709551616):eC b (at_:Int)=(n,(to:Int),0):=by
 rw [h,<-ht,<-ha];exact aGv a r n hn
structure SnAt (body:List UInt8) (most rate N:Nat) (f s:List UInt8) (p1 p2 p3 p4 p5:Nat):Prop where
 e1:body=eW++(bK most++(bK rate++(bK N++(dK f++dK s))))
 h1:4+(bK most).length=p1
 h2:p1+(bK rate).length=p2
 h3:p2+(bK N).length=p3
 h4:p3+(dK f).length=p4
 h5:p4+(dK s).length=p5
theorem vI (L rs:List Nat) (most rate N:Nat):kH L rs most rate N=eW++(bK most++(bK rate++(bK N++(dK (eU L)++dK (sX rs rate N))))):=by
 unfold kH;simp [dH]
theorem SnAt.of (L rs:List Nat) (most rate N:Nat):∃p1 p2 p3 p4 p5,SnAt (kH L rs most rate N) most rate N (eU L) (sX rs rate N) p1 p2 p3 p4 p5/\(kH L rs most rate N).length=p5:=by
 refine ⟨_,_,_,_,_,⟨vI L rs most rate N,rfl,rfl,rfl,rfl,rfl⟩,?_⟩;rw [vI];simp [eW];omega
theorem SnAt.n1 {body f s:List UInt8} {most rate N p1 p2 p3 p4 p5:Nat} (h:SnAt body most rate N f s p1 p2 p3 p4 p5) (hm:most < 18446744073709551616):eC body 4=(most,(p1:Int),0):=
 uP (a:=eW) h.e1 rfl h.h1 hm
theorem SnAt.n2 {body f s:List UInt8} {most rate N p1 p2 p3 p4 p5:Nat} (h:SnAt body most rate N f s p1 p2 p3 p4 p5) (hm:rate < 18446744073709551616):eC body (p1:Int)=(rate,(p2:Int),0):=
 uP (a:=eW++bK most) (r:=bK N++(dK f++dK s)) (by rw [h.e1];simp) (by rw [zAi];have:=h.h1;have:eW.length=4:=rfl;omega) h.h2 hm
theorem SnAt.n3 {body f s:List UInt8} {most rate N p1 p2 p3 p4 p5:Nat} (h:SnAt body most rate N f s p1 p2 p3 p4 p5) (hm:N < 18446744073709551616):eC body (p2:Int)=(N,(p3:Int),0):=
 uP (a:=eW++(bK most++bK rate)) (r:=dK f++dK s) (by rw [h.e1];simp) (by rw [zAi,zAi];have:=h.h1;have:=h.h2;have:eW.length=4:=rfl;omega) h.h3 hm
theorem iT (b:List UInt8):(dK b).length=(bK b.length).length+(b.length+4):=by
 unfold dK;rw [zAi,zAi,jC]
theorem SnAt.f1 {body f s:List UInt8} {most rate N p1 p2 p3 p4 p5:Nat} (h:SnAt body most rate N f s p1 p2 p3 p4 p5) (hm:f.length < 18446744073709551616):
 ∃q:Nat,eC body (p3:Int)=(f.length,(q:Int),0)/\q+(f.length+4)=p4/\(body.drop q).take f.length=f/\p4<=body.length:=by
 have ea:body=(eW++(bK most++(bK rate++bK N)))++(bK f.length++((f++jJ (gJ f))++dK s)):=by rw [h.e1];simp [dK]
 have hla:(eW++(bK most++(bK rate++bK N))).length=p3:=by simp only [zAi];have:=h.h1;have:=h.h2;have:=h.h3;have:eW.length=4:=rfl;omega
 refine ⟨p3+(bK f.length).length,uP ea hla rfl hm,?_,?_,?_⟩;have:=h.h4;rw [iT] at this;omega
 · rw [ea,<-zCn,List.drop_left' (by rw [zAi,hla]),zCn,List.take_left' rfl]
 have h5:=h.h5;have e:=congrArg List.length h.e1;simp only [zAi] at e;have h1:=h.h1;have h2:=h.h2;have h3:=h.h3;have h4:=h.h4;have hm4:eW.length=4:=rfl;omega
theorem SnAt.f2 {body f s:List UInt8} {most rate N p1 p2 p3 p4 p5:Nat} (h:SnAt body most rate N f s p1 p2 p3 p4 p5) (hm:s.length < 18446744073709551616):
 ∃q:Nat,eC body (p4:Int)=(s.length,(q:Int),0)/\q+(s.length+4)=p5/\(body.drop q).take s.length=s/\p5=body.length:=by
 have ea:body=(eW++(bK most++(bK rate++(bK N++dK f))))++(bK s.length++((s++jJ (gJ s))++ [])):=by rw [h.e1];simp [dK]
 have hla:(eW++(bK most++(bK rate++(bK N++dK f)))).length=p4:=by simp only [zAi];have:=h.h1;have:=h.h2;have:=h.h3;have:=h.h4;have:eW.length=4:=rfl;omega
 refine ⟨p4+(bK s.length).length,uP ea hla rfl hm,?_,?_,?_⟩;have:=h.h5;rw [iT] at this;omega
 · rw [ea,<-zCn,List.drop_left' (by rw [zAi,hla]),zCn,List.take_left' rfl]
 have h5:=h.h5;have e:=congrArg List.length h.e1;simp only [zAi] at e;have h1:=h.h1;have h2:=h.h2;have h3:=h.h3;have h4:=h.h4;have hm4:eW.length=4:=rfl;omega
end Go.Proofs.YtnhmjomhloainaaGreatDoor
