/- Parts of the walk, joined from several texts. Conditions: what each lemma says. -/
import Derived.Test.YtnhmjomhloainaaGreatDoorPq4
import Derived.BigQuiet
import Derived.Deep.QuietTactic
set_option linter.all false
set_option maxRecDepth 100000
set_option maxHeartbeats 4000000
namespace Go.Proofs.YtnhmjomhloainaaGreatDoor
theorem aIB {c x:Nat} (h:c < 256):c+256*x=c ^^^(256*x):=by
 apply Nat.eq_of_testBit_eq;intro j;have e:c+256*x=2 ^ 8*x+c:=oM;rw [e,Nat.testBit_two_pow_mul_add x (show c < 2 ^ 8 from h),Nat.testBit_xor,show 256*x=2 ^ 8*x from rfl,Nat.testBit_two_pow_mul];by_cases hj:j < 8
 · rw [zBx hj,zBy oM];simp
 · rw [zBw hj,zBz oM,Nat.testBit_lt_two_pow (zAl (show c < 2 ^ 8 from h) (zBp oM oM))];simp
theorem aHS (a b:Nat):(a ^^^ b)/ 2=(a / 2)^^^(b / 2):=by
 apply Nat.eq_of_testBit_eq;intro j;rw [Nat.testBit_xor,<-Nat.testBit_succ,<-Nat.testBit_succ,<-Nat.testBit_succ,Nat.testBit_xor]
theorem aIA (a b:Nat):(a ^^^ b)% 2=(a % 2+b % 2)% 2:=by
 have h0:=Nat.testBit_xor a b 0;rw [Nat.testBit_zero,Nat.testBit_zero,Nat.testBit_zero] at h0;rcases Nat.mod_two_eq_zero_or_one a with ha | ha <;> rcases Nat.mod_two_eq_zero_or_one b with hb | hb <;> rcases Nat.mod_two_eq_zero_or_one (a ^^^ b) with hc | hc <;> rw [ha,hb,hc] at h0 <;> rw [ha,hb,hc] <;> first | rfl |(exact absurd h0 dC)
theorem aBD (a b:Nat):cQ (a ^^^ b)=cQ a ^^^ cQ b:=by
 unfold cQ;rw [aIA,aHS];rcases Nat.mod_two_eq_zero_or_one a with ha | ha <;> rcases Nat.mod_two_eq_zero_or_one b with hb | hb <;> rw [ha,hb]
 · rw [zBw dC,zBw dC,zBw dC]
 · rw [zBx dC,zBw dC,zBx dC,Nat.xor_assoc]
 · rw [zBx dC,zBx dC,zBw dC,Nat.xor_assoc,Nat.xor_assoc,Nat.xor_comm (b / 2)]
 · rw [zBw dC,zBx dC,zBx dC,Nat.xor_assoc,<-Nat.xor_assoc 3988292384,Nat.xor_comm 3988292384,Nat.xor_assoc (b / 2),Nat.xor_self,Nat.xor_zero]
theorem rK (a b:Nat):∀k,dB k (a ^^^ b)=dB k a ^^^ dB k b
 | 0=>rfl
 | k+1=>by show cQ (dB k (a ^^^ b))=cQ (dB k a)^^^ cQ (dB k b);rw [rK a b k,aBD]
theorem rL (s:Nat) (k:Nat):∀j,dB (j+k) s=dB j (dB k s)
 | 0=>by rw [zBi];rfl
 | j+1=>by rw [Nat.add_right_comm];show cQ (dB (j+k) s)=cQ (dB j (dB k s));rw [rL s k j]
theorem vH (x:Nat):∀k,dB k (2 ^ k*x)=x
 | 0=>by simp [dB]
 | k+1=>by rw [rL _ 1 k];have e:dB 1 (2 ^(k+1)*x)=2 ^ k*x:=(by show cQ (2 ^(k+1)*x)=_;have e1:2 ^(k+1)*x=2*(2 ^ k*x):=(by rw [Nat.pow_succ,Nat.mul_comm (2 ^ k) 2,Nat.mul_assoc]);rw [e1];unfold cQ;rw [zBw oM];omega);rw [e,vH x k]
def leN:List UInt8->Nat
 | []=>0
 | c::r=>c.toNat+256*leN r
theorem aGJ (s:Nat) (c:UInt8):iN ((s % 256)^^^ c.toNat)^^^(s / 256)=dB 8 (s ^^^ c.toNat):=by
 have e:s=(s % 256)^^^(256*(s / 256)):=by rw [<-aIB oM];omega
 have e2:s ^^^ c.toNat=((s % 256)^^^ c.toNat)^^^(2 ^ 8*(s / 256)):=by
  conv=>lhs;rw [e]
  rw [Nat.xor_assoc,Nat.xor_assoc,Nat.xor_comm (256*(s / 256))]
 rw [e2,rK,vH];rfl
def BuAt (b c:List UInt8) (p k i:Nat):Prop:=c.length=b.length/\∀j,(leN c).testBit j=((leN b).testBit j ^^(decide (k<=j/\j < k+i)&&p.testBit (j - k)))
theorem BuAt.start (b:List UInt8) (p k:Nat):BuAt b b p k 0:=⟨rfl,fun j=>by rw [zBy oM];simp⟩
theorem BuAt.skip {b c:List UInt8} {p k i:Nat} (h:BuAt b c p k i) (hp:p.testBit i=false):BuAt b c p k (i+1):=by
 refine ⟨h.1,fun j=>?_⟩;rw [h.2 j];by_cases hj:j=k+i
 · subst hj;rw [zBy oM,Nat.add_sub_cancel_left,hp];simp
 · rw [show (decide (k<=j/\j < k+(i+1)))=decide (k<=j/\j < k+i) from decide_eq_decide.2 oM]
theorem BuAt.done {b c:List UInt8} {p k:Nat} (h:BuAt b c p k 32) (hp:p < 4294967296):leN c=leN b ^^^(2 ^ k*p):=by
 apply Nat.eq_of_testBit_eq;intro j;rw [h.2 j,Nat.testBit_xor,Nat.testBit_two_pow_mul];by_cases hk:k<=j
 · by_cases hj:j < k+32
   · rw [zBz (show k<=j/\j < k+32 from ⟨hk,hj⟩),zBz (show j>=k from hk)]
   rw [zBy (show ¬(k<=j/\j < k+32) by omega),zBz (show j>=k from hk),Nat.testBit_lt_two_pow (zAl (show p < 2 ^ 32 from hp) (zBp oM oM))];rfl
 · rw [zBy (show ¬(k<=j/\j < k+32) by omega),zBy (show ¬j>=k by omega)]
end Go.Proofs.YtnhmjomhloainaaGreatDoor
namespace Go.Proofs.YtnhmjomhloainaaGreatDoor
open Go.RowKit
theorem rO:(Tryz.prog.info? 4).map (fun i=>(i.zero,i.size,i.bytes))=some (some (.bool false),1,1):=by kernel_rfl
theorem qX (w:World):
 Calls Tryz.prog 113 #[.int .i64 268435456] w fun e w'=>e=.returned (.pointer (some ⟨w.heap.size,0,none⟩))/\Bk w' w.heap.size 215 #[.slice none 0 0,.slice none 0 0,.int .i64 268435456]/\Below w.heap.size w w':=by
 go_enter Tryz.func113,Tryz.ntmps113;go_wp2;go_ret;exact ⟨rfl,Bk.new _ _ _,bR.alloc nL _⟩
theorem aDH (ga:Nat) (w:World) (hb:Bk w ga 215 #[.slice none 0 0,.slice none 0 0,.int .i64 268435456]):
 Calls Tryz.prog 184 #[.pointer (some ⟨ga,0,none⟩)] w fun e w'=>e=.returned (.int .i64 0)/\Below w.heap.size w w':=by
 have c0:w.cell? ⟨ga,0,none⟩=some (.slice none 0 0):=(hb.cell 0).trans rfl;have c1:w.cell? ⟨ga,1,none⟩=some (.slice none 0 0):=(hb.cell 1).trans rfl;go_enter Tryz.func184,Tryz.ntmps184;go_wp2;go_quiet (fail);go_wp2;go_ret;exact ⟨rfl,below_drewN bR _⟩
theorem aCK {w:World} {g:Nat} {e:TypeId} {v:Value} (h:Bk w g e #[v]):Rd w w.heap.size 1 (some ⟨g,0,none⟩) 1 [v]:=by
 refine ⟨rfl,fun _=>⟨g,0,rfl,h.lt,fun i u hu=>?_⟩⟩;rw [zBi,h.cell i];rcases i with _ | i;exact hu
 · simp at hu
theorem aDq (ga:Nat) (w:World) (hb:Bk w ga 215 #[.slice none 0 0,.slice none 0 0,.int .i64 268435456]):
 Calls Tryz.prog 121 #[.pointer (some ⟨ga,0,none⟩)] w fun e w'=>e=.returned (.tuple #[.int .i64 0,.int .i64 0])/\Keep (fun b=>b=ga) w w'/\∃A c,Bk w' ga 215 #[.slice A 1 c,.slice none 0 0,.int .i64 268435456]/\Made w' w.heap.size 4 1 A 1 c [.bool true]:=by
 obtain ⟨i0,hi0,hz0,hz1,hz2⟩:=info_parts rO;have hgl:=hb.lt;obtain ⟨Hb,HW⟩:=hqq2 hb (Below.refl w.heap.size w);clear hb;go_enter Tryz.func121,Tryz.ntmps121;go_wp2;refine wp_region_any kR ?_;refine aX [10,11,12,13,14,15,16,9] Grow (Vs [is (.pointer (some ⟨ga,0,none⟩)),is (.int .i64 0),is (.pointer (some ⟨ga,0,none⟩)),is (.pointer (some ⟨ga,0,none⟩)),is (.pointer (some ⟨ga,2,none⟩)),is (.int .i64 268435456),is (.bool false),is (.bool false)]) _ _ rfl kR bR (fun _ _=>Grow.trans) (pE (by repeat' (first | exact uF _ | exact pD _ _ _ |(refine zAe.2 ⟨?_,?_⟩)|(intro p hp;cases hp)))) ?_ ?_
 · refine aT ?_;refine sC (fun ev _ _ _ _ hold _ _ _ _ hK=>?_) ?_
   · have e0:ev (.tmp 0)=.pointer (some ⟨ga,0,none⟩):=hold 0 kR;go_simp;exact hK _ _ bR rfl
   refine sC (fun _ w5 hS _ _ _ hval _ _ _ hK=>?_) ?_
   · have e10:_=_:=hval 0 10 kR rfl;replace hS:Grow w w5:=⟨hS.os,hS.tape,hS.output,hS.size,hS.block⟩;go_simp;refine (aDH ga w5 (Hb.out.below hS Hb.out.lt)).mono ?_;rintro e w8 ⟨rfl,hb8⟩;exact hK _ _ hb8 rfl
   refine sC (fun ev _ _ _ _ hold _ _ _ _ hK=>?_) ?_
   · have e0:ev (.tmp 0)=.pointer (some ⟨ga,0,none⟩):=hold 0 kR;go_simp;exact hK _ _ bR rfl
   refine sC (fun _ _ _ _ _ _ hval _ _ _ hK=>?_) ?_
   · have e12:_=_:=hval 2 12 kR rfl;go_simp;exact hK _ _ bR rfl
   refine sC (fun _ _ _ _ _ _ hval _ _ _ hK=>?_) ?_
   · have e13:_=_:=hval 3 13 kR rfl;go_simp;exact hK _ _ bR rfl
   refine sC (fun _ w5 hS _ _ _ hval _ _ _ hK=>?_) ?_
   · have e14:_=_:=hval 4 14 kR rfl;replace hS:Grow w w5:=⟨hS.os,hS.tape,hS.output,hS.size,hS.block⟩;have c15:w5.cell? ⟨ga,2,none⟩=some (.int .i64 268435456):=((Hb.out.below hS Hb.out.lt).cell 2).trans rfl;go_simp;exact hK _ _ bR rfl
   refine sC (fun _ _ _ _ _ _ hval _ _ _ hK=>?_) ?_
   · have e11:_=_:=hval 1 11 kR rfl;have e15:_=_:=hval 5 15 kR rfl;go_simp;exact hK _ _ bR rfl
   refine sC (fun _ _ _ _ _ _ hval _ _ _ hK=>?_) ?_
   · have e16:_=_:=hval 6 16 kR rfl;go_simp;exact hK _ _ bR rfl
   exact aG
 · intro ev w6 hS hval;replace hS:Grow w w6:=⟨hS.os,hS.tape,hS.output,hS.size,hS.block⟩;have e9:ev (.tmp 9)=.bool false:=hval 7 9 rfl;simp only [aO,zq1,zq2,Act.put,zq3,zq4,zq5];rw [e9];clear hval;have Hb2:=lhd (Hb.out.below hS Hb.out.lt);have hsz2:=Below.size hS;have HS2:=lhd hS;have c1:w6.cell? ⟨ga,1,none⟩=some (.slice none 0 0):=(Hb2.out.cell 1).trans rfl;clear hS;have c0:w6.cell? ⟨ga,0,none⟩=some (.slice none 0 0):=(Hb2.out.cell 0).trans rfl;have f0:=Hb2.out.frozen 0;have hga6:ga < w6.heap.size:=oM;revert Hb2 hsz2 c0 c1 f0 HS2 hga6;generalize w6=W2;intro Hb2 hsz2 HS2 c1 c0 f0 hga6;have a0:=(World.cell?_alloc_lt W2 (Obj.cells #[.bool true] 4) ⟨ga,0,none⟩ hga6).trans c0;go_wp2_with (at_builtin;refine aY _ rfl (.tmp 53) (.tmp 54) _ rfl w.heap.size 4 i0 (.bool false) 1 1 Tryz.underlying205 hi0 hz0 hz1 hz2 rfl dC (.slice none 0 0) 0 [] rfl (World.ownsRow_nil _ _ _ _) rfl rfl (by simp [Value.oneCell']) (by unfold maxLen;omega) oM hsz2 ?_;intro v5 w5 hown5 hg5 hs5 hat5;rw [zBi,List.nil_append] at hown5;obtain ⟨A9,c9,rfl,hm9⟩:=aS hown5;have hB5:Below W2.heap.size W2 w5:=⟨hg5.os,hg5.tape,hg5.output,hg5.size,fun k hk=>hg5.block k hk (by simp [Value.ownBlock])⟩;have hb5:=Hb2.out.below hB5 hga6;have d0:w5.cell? ⟨ga,0,none⟩=some (.slice none 0 0):=(hb5.cell 0).trans rfl;have e0:=hb5.frozen 0);go_ret2;have hset:=Keep.setCell (F:=fun b=>b=ga) (Keep.refl (fun b=>b=ga) w5) (p:=⟨ga,0,none⟩) (.inl rfl) (.slice A9 1 c9);exact ⟨rfl,((Keep.of_below HS2.out).trans (Keep.of_below hB5)).trans hset,A9,c9,hb5.set 0 _,(hm9.mono oM).keepF hset (fun b hb=>by subst hb;exact hgl)⟩
end Go.Proofs.YtnhmjomhloainaaGreatDoor
namespace Go.Proofs.YtnhmjomhloainaaGreatDoor
theorem aEm (m:List Int) (x:Int×Nat) (h:x∈aU m):x.1∈m:=by
 have h1:=(rC m).1 x h;have h2:x.1∈dV (aU m):=List.mem_flatMap.2 ⟨x,h,List.mem_replicate.2 ⟨by omega,rfl⟩⟩;rwa [iF] at h2
theorem oZ {L:List Nat} (h:∀x∈L,x < 257):∀x∈aU (eO L),eG x.1:=by
 intro x hx;obtain ⟨y,hy,e⟩:=zAy.1 (aEm _ x hx);have:=h y hy;unfold eG;omega
theorem fT (L:List Nat):(eO L).length=L.length:=by simp [eO]
theorem vA {L:List Nat} (h:∀x∈L,x < 257):jL (eO L)=some (eU L):=by
 unfold jL;rw [zBx (oZ h)];rfl
theorem gP (L:List Nat):(eU L).length<=11+22*L.length:=by
 unfold eU;have h1:=mE (aU (eO L));have h2:=gN (eO L);have h3:=bN (aU (eO L)).length;rw [fT] at h2;have e:cZ (aU (eO L))=bK (aU (eO L)).length++(aU (eO L)).flatMap bP:=by simp [cZ]
 rw [e,zAi];omega
def pF (rs:List Nat) (rate k:Nat):List UInt8:=(List.range k).flatMap fun k=>bK (rs.idxOf (k*rate))
theorem mU (rs:List Nat) (rate k:Nat):pF rs rate (k+1)=pF rs rate k++bK (rs.idxOf (k*rate)):=by
 unfold pF;rw [List.range_succ,List.flatMap_append];simp
theorem lV (rs:List Nat) (rate k:Nat):(pF rs rate k).length<=11*k:=by
 induction k with
 | zero=>simp [pF]
 | succ k ih=>
   rw [mU,zAi];have:=bN (rs.idxOf (k*rate));omega
theorem tK (rs:List Nat) (rate N:Nat):sX rs rate N=pF rs rate (N / rate+1):=rfl
theorem aHi (rs:List Nat) (rate k:Nat):k<=(pF rs rate k).length:=by
 induction k with
 | zero=>simp
 | succ k ih=>
   rw [mU,zAi];have:=aGC (rs.idxOf (k*rate));omega
theorem aIq {k rate N:Nat} (hr:1<=rate) (hk:k<=N / rate+1) (h:¬k*rate<=N):k=N / rate+1:=by
 have h1:N / rate < k:=(Nat.div_lt_iff_lt_mul oM).2 oM;omega
theorem aGg {k rate N:Nat} (hr:1<=rate) (h:k*rate<=N):k+1<=N / rate+1:=by
 have:=(Nat.le_div_iff_mul_le oM).2 h;omega
end Go.Proofs.YtnhmjomhloainaaGreatDoor
namespace Go.Proofs.YtnhmjomhloainaaGreatDoor
open Go.RowKit Go
theorem dM {P:Program} {ops:Array Oper} {Q:Exit->Act->World->Prop} {md:Region.Mode} (n:Nat) (ds:List Nat) (F:Nat->Prop) (J:Nat) (rd:List Nat) (pre:World->Prop) (pJ:Value->World->Prop) (l:List (Value->World->Prop)) (a0:Act) (W0:World)
 (hds:(ops.toList.take n).filterMap (·.dst)=ds) (hn:n<=ops.size) (hlaid:iA md ops a0.tmps.size=true) (htail:((List.range ops.size).all fun k=>decide (k < n)||(List.range n).all fun i=>upB md ops ops.size k i)=true)
 (hrd:(rd.all fun i=>i==J||upB md ops ops.size J i)=true)
 (hp0:pre W0) (hp:∀w w',pre w->Keep F W0 w->Grow w w'->pre w') (hJ:Stb pJ) (hst:∀p∈l,xM F p)
 (hstep:∀j o,j < n->ops[j]?=some o->dI P ops Q md (Keep F W0) (oF F J) (fun i w=>rd.contains i=true->pre w) (VsJ J pJ l) a0 j o)
 (hend:∀(ev:Operand->Value) w f,Keep F W0 w->(∀i d,i < n->((ops[i]?).bind (·.dst))=some d->VsJ J pJ l i (ev (.tmp d)) w)->wpAny P md ops Q (ops.size - n+f) (cF n ops.size) (aO ev ds a0) w):
 wpAny P md ops Q ops.size (Array.replicate ops.size false) a0 W0:=by
 refine aAV n ds (Keep F W0) (oF F J) (fun i w=>rd.contains i=true->pre w) (VsJ J pJ l) a0 W0 hds hn hlaid htail (Keep.refl _ _) (fun _ _=>hp0) (fun j w w' _ h k=>h.trans (iV k)) (fun i j w w' _ hij hup hi hC k hir=>?_) (fun i j v w w' _ hij _ hv _ k=>?_) hstep hend;by_cases hj:j=J;exfalso;subst hj;have h2:=zBf.1 hrd i (by simpa using hir);simp only [hup,Bool.or_false,zCp] at h2;exact hij h2;exact hp w w' (hi hir) hC (k.2 hj);unfold VsJ at hv⊢;by_cases hi:i=J;rw [zBx hi] at hv⊢;exact hJ v w w' hv (k.2 fun e=>hij (hi.trans e.symm));rw [zBw hi] at hv⊢;exact uE hst i v w w' hv (iV k)
theorem cC {n:Nat} {T:Nat->Oper->Prop} {l:List Oper} (h:∀j p,(l.take n)[j]?=some p->T (0+j) p):∀j p,j < n->l.toArray[j]?=some p->T j p:=by
 intro j p hj hp;have:=h j p (by rw [zBs,zBx hj];simpa using hp);rwa [zBi] at this
end Go.Proofs.YtnhmjomhloainaaGreatDoor
namespace Go.Proofs.YtnhmjomhloainaaGreatDoor
open Go.RowKit
theorem aBL (a b:Nat) (ha:a < 18446744073709551616) (hb:b < 18446744073709551616):bits .andNot .u64 (a:Int) (b:Int)=((a&&&(18446744073709551615 - b):Nat):Int):=by
 have ha':a % 2 ^ 64=a:=zBu oM;have hb':b % 2 ^ 64=b:=zBu oM;have hlt:a&&&(18446744073709551615 - b) < 2 ^ 64:=Nat.and_lt_two_pow _ oM;show IntKind.u64.wrap (((BitVec.ofInt 64 (a:Int)&&& ~~~ BitVec.ofInt 64 (b:Int)).toNat:Nat):Int)=_;rw [BitVec.ofInt_natCast,BitVec.ofInt_natCast,BitVec.toNat_and,BitVec.toNat_not,BitVec.toNat_ofNat,BitVec.toNat_ofNat,ha',hb',IntKind.wrap_u64,show 2 ^ 64 - 1 - b=18446744073709551615 - b by omega];omega
theorem aDM {a b:Nat} (ha:a < 18446744073709551616) (hb:b < 18446744073709551616):a||| b < 18446744073709551616:=Nat.or_lt_two_pow (n:=64) ha hb
theorem aBM (a:Nat) {b:Nat} (hb:b < 18446744073709551616):a&&& b < 18446744073709551616:=Nat.and_lt_two_pow (n:=64) a hb
theorem aC2 (x k:Nat) (hk:k < 64):aAb x (k:Int)=x % 2 ^ k:=by
 unfold aAb;rw [show min ((k:Int)).toNat 64=k by omega]
theorem aG7 (x k:Nat) (b:Bool) (hx:x < 18446744073709551616) (hk:k < 64) (w:World):
 Calls Tryz.prog 290 #[.int .u64 (x:Int),.int .i64 (k:Int),.bool b] w fun e w'=>e=.returned (.tuple #[.int .u64 ((pL x k b:Nat):Int),.bool (x.testBit 63)])/\w=w':=by
 have hlow:=aC2 x k hk;obtain ⟨a,ha⟩:=eqx (x % 2 ^ k);have hal:a < 18446744073709551616:=by rw [<-ha];exact uS x k hx
 obtain ⟨q,hq⟩:=eqx (2 ^ k);have hql:q < 18446744073709551616:=by rw [<-hq];exact Nat.pow_lt_pow_right (a:=2) dC (show k < 64 from hk)
 have hqI:(2:Int)^ k=(q:Int):=by rw [<-hq];push_cast;rfl
 obtain ⟨c,hc⟩:=eqx ((if b then q else 0:Nat));have hcl:c < 18446744073709551616:=by rw [<-hc];split <;> omega
 have h1:IntKind.u64.wrap (q:Int)=(q:Int):=by rw [IntKind.wrap_u64];omega
 have h2:=aEC a c hal hcl;obtain ⟨n1,hn1⟩:∃n,a||| c=n:=⟨_,rfl⟩;have hn1l:n1 < 18446744073709551616:=by rw [<-hn1];exact aDM hal hcl
 have h3:=aBL x a hx hal;obtain ⟨n2,hn2⟩:∃n,x&&&(18446744073709551615 - a)=n:=⟨_,rfl⟩;have hn2l:n2 < 18446744073709551616:=by rw [<-hn2];exact aBM _ oM
 obtain ⟨n3,hn3⟩:∃n,n2*2 % 18446744073709551616=n:=⟨_,rfl⟩;have hn3l:n3 < 18446744073709551616:=oM;have h4:IntKind.u64.wrap ((n2:Int)*2)=(n3:Int):=by rw [IntKind.wrap_u64];omega
 have h5:=aEC n1 n3 hn1l hn3l;have hfin:pL x k b=n1||| n3:=by unfold pL;rw [ha,hq,hc,hn1,hn2,hn3]
 have htop:((x:Int)/ 9223372036854775808==1)=x.testBit 63:=by rw [<-aHa x hx,Bool.eq_iff_iff,zCp,zCa];omega
 rw [hn1] at h2;rw [hn2] at h3;rw [hfin,<-htop];have hk0:decide ((k:Int) < 0)=false:=by simp
 have hk1:¬((k:Int)>=64):=oM;have Hlow:=lhd (hlow.trans ha);clear hfin htop hlow ha hq hn1 hn2 hn3;go_enter Tryz.func290,Tryz.ntmps290;go_wp2_with fail;refine (pR x (k:Int) hx oM _).mono ?_;rintro e w1 ⟨rfl,rfl⟩;rw [Hlow.out];cases b with
 | true=>
   rw [zBx rfl] at hc;subst hc;go_wp2_with fail;go_ret2;exact ⟨rfl,rfl⟩
 | false=>
   rw [zBw (by simp)] at hc;subst hc;have h2':bits .or .u64 (a:Int) 0=(n1:Int):=h2;go_wp2_with fail;go_ret2;exact ⟨by rw [<-h5];rfl,rfl⟩
theorem aCk (x k:Nat) (b:Bool) (hx:x < 18446744073709551616) (hk:k < 64) (w:World):
 Calls Tryz.prog 298 #[.int .u64 (x:Int),.int .i64 (k:Int),.bool b] w fun e w'=>e=.returned (.tuple #[.int .u64 ((mG x k b:Nat):Int),.bool (x.testBit k)])/\w=w':=by
 have hlow:=aC2 x k hk;have hlow2:=aC2 (x / 2) k hk;obtain ⟨a,ha⟩:=eqx (x % 2 ^ k);have hal:a < 18446744073709551616:=by rw [<-ha];exact uS x k hx
 have hx2:x / 2 < 18446744073709551616:=oM;obtain ⟨a2,ha2⟩:∃a,x / 2 % 2 ^ k=a:=⟨_,rfl⟩;have hal2:a2 < 18446744073709551616:=by rw [<-ha2];exact uS _ k hx2
 obtain ⟨y,hy⟩:=eqx (x / 2);have hyI:(x:Int)/ 2=(y:Int):=oM;have hyl:y < 18446744073709551616:=oM;obtain ⟨c,hc⟩:=eqx ((if b then 9223372036854775808 else 0:Nat));have hcl:c < 18446744073709551616:=by rw [<-hc];split <;> omega
 have h3:=aBL y a2 hyl hal2;obtain ⟨n2,hn2⟩:∃n,y&&&(18446744073709551615 - a2)=n:=⟨_,rfl⟩;have hn2l:n2 < 18446744073709551616:=by rw [<-hn2];exact aBM _ oM
 have h2:=aEC a n2 hal hn2l;obtain ⟨n1,hn1⟩:∃n,a||| n2=n:=⟨_,rfl⟩;have hn1l:n1 < 18446744073709551616:=by rw [<-hn1];exact aDM hal hn2l
 have h5:=aEC n1 c hn1l hcl;have hfin:mG x k b=n1||| c:=by unfold mG;rw [ha,hy,hc];rw [hy] at ha2;rw [ha2,hn2,hn1]
 obtain ⟨d,hd⟩:=eqx (x / 2 ^ k);have hdI:(x:Int)/ 2 ^ k=(d:Int):=by rw [<-hd];push_cast;rfl
 have hdl:d < 18446744073709551616:=by rw [<-hd];exact Nat.lt_of_le_of_lt (Nat.div_le_self _ _) hx
 have h6:bits .and .u64 (d:Int) 1=((d&&& 1:Nat):Int):=(bits_nat .u64 64 dC (fun n h0 h1=>by rw [IntKind.wrap_u64];omega) d 1 oM dC).1;have htop:(((d&&& 1:Nat):Int)==1)=x.testBit k:=by rw [Nat.testBit_eq_decide_div_mod_eq,hd,Nat.and_one_is_mod,Bool.eq_iff_iff,zCp,zCa];omega
 obtain ⟨d1,hd1⟩:∃z,d&&& 1=z:=⟨_,rfl⟩;rw [hd1] at h6 htop;rw [hn1] at h2;rw [hn2] at h3;rw [hfin,<-htop];have hk0:decide ((k:Int) < 0)=false:=by simp
 have hk1:¬((k:Int)>=64):=oM;rw [hy] at hlow2 ha2;obtain ⟨Hlow,Hlow2⟩:=hqq2 (hlow.trans ha) (hlow2.trans ha2);clear hfin htop hlow hlow2 ha ha2 hy hn1 hn2 hd hd1;go_enter Tryz.func298,Tryz.ntmps298;go_wp2_with fail;refine (pR x (k:Int) hx oM _).mono ?_;rintro e w1 ⟨rfl,rfl⟩;rw [Hlow.out];cases b with
 | true=>
   rw [zBx rfl] at hc;subst hc;have h5':bits .or .u64 (n1:Int) 9223372036854775808=((n1||| 9223372036854775808:Nat):Int):=h5;go_wp2_with fail;refine (pR y (k:Int) hyl oM _).mono ?_;rintro e w1 ⟨rfl,rfl⟩;rw [Hlow2.out];go_wp2_with fail;go_ret2;exact ⟨rfl,rfl⟩
 | false=>
   rw [zBw (by simp)] at hc;subst hc;have h5':bits .or .u64 (n1:Int) 0=((n1||| 0:Nat):Int):=h5;go_wp2_with fail;refine (pR y (k:Int) hyl oM _).mono ?_;rintro e w1 ⟨rfl,rfl⟩;rw [Hlow2.out];go_wp2_with fail;go_ret2;exact ⟨by rw [Nat.or_zero];rfl,rfl⟩
theorem aEi (s:Int) (w:World) (h:eG s):Calls Tryz.prog 143 #[.int .i64 s] w fun e w'=>e=.returned (.bool true)/\w=w':=by
 obtain ⟨h1,h2⟩:=h;go_enter Tryz.func143,Tryz.ntmps143;go_wp2;go_ret;exact ⟨eP (by simp <;> omega),rfl⟩
theorem aFA (s:Int) (w:World) (h:¬eG s):Calls Tryz.prog 143 #[.int .i64 s] w fun e w'=>e=.returned (.bool false)/\w=w':=by
 have h':s < 0∨(0<=s/\257<=s):=by unfold eG at h;omega
 rcases h' with h1 |⟨h1,h2⟩
 · go_enter Tryz.func143,Tryz.ntmps143;go_wp2;go_ret;exact ⟨eP (by simp <;> omega),rfl⟩
 · go_enter Tryz.func143,Tryz.ntmps143;go_wp2;go_ret;exact ⟨eP (by simp <;> omega),rfl⟩
def aHY (w w':World) (o:Option (List UInt8)) (e:Ending):Prop:=
 (∃bs A c,o=some bs/\e=.returned (.tuple #[.slice A bs.length c,.int .i64 0])/\Made w' w.heap.size 5 1 A bs.length c (bs.map bv))∨
 (o=none/\e=.returned (.tuple #[.slice none 0 0,.int .i64 1]))
theorem aDz (A:Option Addr) (m c B:Nat) (l:List Int) (w:World) (hr:Rd w B 1 A m (l.map iv)) (hB:B<=w.heap.size) (hm:m<=1000000):
 Calls Tryz.prog 69 #[.slice A m c] w fun e w'=>aHY w w' (jL l) e/\Below w.heap.size w w':=by
 obtain ⟨i0,hi0,hz0,hz1,hz2⟩:=info_parts jO;have hll:l.length=m:=by simpa using hr.1
 obtain ⟨r,hrr⟩:=eqx (aU l);obtain ⟨n,hn⟩:=eqx r.length;have hnm:n<=1000000:=by have:=gN l;rw [hrr] at this;omega
 have hcnt:∀x∈r,x.2<=1000000:=fun x hx=>by have:=jA l x (by rw [hrr];exact hx);omega
 have Hcnt:=lhd hcnt;have hput:jL l=if ∀x∈r,eG x.1 then some (cZ r) else none:=by unfold jL;rw [hrr]
 obtain ⟨Hput,Hrr,Hn,Hr⟩:=hqq4 hput hrr hn hr;have hB0:=Below.refl w.heap.size w;clear hr hll hrr hn hput hcnt;go_enter Tryz.func69,Tryz.ntmps69;go_wp2_with fail;refine (aGY _ _ _ _ l _ r n Hrr.out Hn.out Hr.out hB oM).mono ?_;rintro e w1 ⟨A1,c1,rfl,hm1,hb1⟩;have hs1:=hb1.size;have Ho1:=lhd hm1.own;clear hm1;obtain ⟨k0,hk0⟩:=eqx ((bK n).length);have hk1:k0<=11:=by rw [<-hk0];exact bN n
 have Hk0:=lhd hk0;clear hk0;go_wp2_with fail;refine (wS _ _ _ _ [n] _ (bK n) k0 (oR n) Hk0.out (Rd.made _ _ 1 1 _ rfl) nL (by simp;omega) oM).mono ?_;rintro e w2 ⟨A2,c2,rfl,hm2,hb2⟩;have hB2:=(hb1.alloc hs1 _).trans (hb2.mono (by simp;omega));have hs2:=hB2.size;have hs12:w1.heap.size < w2.heap.size:=by have:=hb2.size;simp at this;omega
 have hown2:w2.ownsRow w.heap.size 5 1 (.slice A2 k0 c2) k0 ((bK n).map bv):=bX hm2.own (by simp;omega);have hruns:w2.ownsRow w.heap.size 187 2 (.slice A1 n c1) n (bC r):=aV (Ho1.out.alloc _) hb2;clear hm2 hb2 hb1;go_wp2_with fail;go_loopw [5,17] (fun v i wr=>∃k q:Nat,k<=n/\i=.int .i64 k/\wr.ownsRow w.heap.size 5 1 v q ((bK n++(r.take k).flatMap bP).map bv)/\wr.ownsRow w.heap.size 187 2 (.slice A1 n c1) n (bC r)/\Below w.heap.size w wr/\∀x∈r.take k,eG x.1) (fun _ i _=>n -(intOf i).toNat)
 case atStart=>exact ⟨0,k0,zAp _,rfl,by simpa using hown2,hruns,hB2,by simp⟩
 case round=>
  obtain ⟨k,q,hk,rfl,hown,hruns,hb,hok⟩:=hrel;have Hok:=lhd hok;have hsz:=hb.size;have hq:q<=22000011:=by have h1:=hown.1;have h2:=mE (r.take k);have h3:=bN n;rw [zAj] at h2;simp only [zBc,zAi] at h1;omega
  clear hok;by_cases hlt:k < n
  · obtain ⟨x,hx⟩:∃x,r[k]?=some x:=⟨r[k]'(by have:=Hn.out;omega),zAa (by have:=Hn.out;omega)⟩;obtain ⟨g,hA1,hgl⟩:∃g,A1=some ⟨g,0,none⟩/\g < wr.heap.size:=(by obtain ⟨g,cap,hv,_,hlt⟩:=hruns.form oM;injection hv with h1 h2 h3;exact ⟨g,h1,hlt⟩);subst hA1;have d0:wr.cell? ⟨g,k*2,none⟩=some (.int .i64 x.1):=(hruns.cellAt (k*2) oM).trans ((dP r k 0 x hx oM).trans rfl);have d1:wr.cell? ⟨g,k*2+1,none⟩=some (.int .i64 (x.2:Int)):=(hruns.cellAt (k*2+1) oM).trans ((dP r k 1 x hx oM).trans rfl);have hnext:=nW r k x hx;have hxc:=Hcnt.out x (zAd hx);have hin:∀y∈r.take (k+1),y∈r.take k∨y=x:=(by intro y hy;have hkl:k < r.length:=(zAc.1 hx).1;rw [List.take_succ_eq_append_getElem hkl,(zAc.1 hx).2] at hy;simpa using hy);have hmem:=zAd hx;obtain ⟨s,y⟩:=x;simp only at d0 d1 hxc;obtain ⟨Hnext,Hin,Hmem⟩:=hqq3 hnext hin hmem;clear hnext hx hin hmem;by_cases hsy:eG s
    · obtain ⟨sn,rfl⟩:=Int.eq_ofNat_of_zero_le hsy.1;have hs257:(sn:Int) < 257:=hsy.2;have Hsy:=lhd hsy;clear hsy;obtain ⟨k2,hk2⟩:=eqx ((bP ((sn:Int),y)).length);have hk3:k2<=22:=(by rw [<-hk2];exact sA _);have Hk2:=lhd hk2;have henc:dH [sn,y]=bP ((sn:Int),y):=(by simp [dH,bP]);have Henc:=lhd henc;clear hk2 henc;go_wp2_with (go_at_call 143;refine (aEi _ _ Hsy.out).mono ?_;rintro e w3 ⟨rfl,rfl⟩);refine (wS _ _ _ _ [sn,y] _ (bP ((sn:Int),y)) k2 Henc.out Hk2.out (Rd.made' _ _ 1 2 _ _ rfl (by simp)) nL (by simp;omega) oM).mono ?_;rintro e w4 ⟨A4,c4,rfl,hm4,hb4⟩;have hB4:=((hb.alloc hsz _).alloc (by simp;omega) _).trans (hb4.mono (by simp;omega));have hs4:=hB4.size;have hown4:w4.ownsRow w.heap.size 5 1 u5 q ((bK n++(r.take k).flatMap bP).map bv):=aV ((hown.alloc _).alloc _) hb4;have hruns4:w4.ownsRow w.heap.size 187 2 (.slice (some ⟨g,0,none⟩) n c1) n (bC r):=aV ((hruns.alloc _).alloc _) hb4;have Hr4:=lhd hm4.rd;have Hone:=lhd (kW (bP ((sn:Int),y)));clear hm4 hb4 hown hruns;go_wp2_with (at_builtin;refine bY _ rfl (.tmp 25) (.tmp 33) _ rfl w.heap.size 5 i0 (.int .u8 0) 1 1 Tryz.underlying23 hi0 hz0 hz1 hz2 rfl dC u5 q _ rfl hown4 w4.heap.size A4 k2 c4 _ rfl Hr4.out Hone.out (by unfold maxLen;omega) oM hs4 ?_;intro v5 w5 hown5 hg5 hat5);have hB5:=aW hB4 hown4 hg5 hs4;have hruns5:=hruns4.kept hg5 (aCT hruns4 hown4 dC);clear hg5 hat5 hruns4 hown4;go_roundw
      case rel=>refine ⟨k+1,q+k2,by omega,by go_num,?_,hruns5,hB5,?_⟩;rw [Hnext.out,<-zCn,zAz];exact hown5;intro z hz;rcases Hin.out z hz with h | h;exact Hok.out z h;rw [h];exact Hsy.out
      case measure=>simp [intOf];omega
    · have Hsy:=lhd hsy;clear hsy;go_wp2_with (go_at_call 143;refine (aFA _ _ Hsy.out).mono ?_;rintro e w3 ⟨rfl,rfl⟩);go_ret2;refine ⟨.inr ⟨?_,rfl⟩,hb.alloc hsz _⟩;rw [Hput.out,zBw];intro hall;exact Hsy.out (hall _ Hmem.out)
  · have hkn:k=n:=oM;have hge:n<=k:=oM;have htk:r.take k=r:=zAg (by have:=Hn.out;omega);rw [htk] at hown Hok;clear hkn htk hruns;obtain ⟨A',c',rfl,hm3⟩:=aS hown;go_wp2;go_ret2;have hqn:(cZ r).length=q:=(by have:=hm3.len;rw [zBc] at this;rw [<-this,cZ,Hn.out]);refine ⟨.inl ⟨cZ r,A',c',?_,?_,?_⟩,hb⟩
    · rw [Hput.out,zBx Hok.out]
    rw [hqn];rfl;rw [hqn,cZ,Hn.out];exact hm3
def yU (x y:Int) (gb:Nat):List Value:= [.int .i64 (-1),.int .i64 (-1),.int .i64 0,.int .i64 x,.int .i64 y,.int .i64 0,.int .i64 0,.pointer (some ⟨gb,0,none⟩)]
def RowS (B gl cl gb:Nat) (x y:Int) (w:World):Prop:=w.ownsRow B 226 8 (.slice (some ⟨gl,0,none⟩) 1 cl) 1 (yU x y gb)
theorem RowS.grow {B gl cl gb:Nat} {x y:Int} {w w':World} (h:RowS B gl cl gb x y w) (k:Below w.heap.size w w'):RowS B gl cl gb x y w':=aV h k
theorem RowS.at3 {B gl cl gb:Nat} {x y:Int} {w:World} (h:RowS B gl cl gb x y w) (z:Int):RowS B gl cl gb z y (w.setCell ⟨gl,3,none⟩ (.int .i64 z)):=(World.ownsRow.stored h 3 (.int .i64 z)).1
theorem RowS.at4 {B gl cl gb:Nat} {x y:Int} {w:World} (h:RowS B gl cl gb x y w) (z:Int):RowS B gl cl gb x z (w.setCell ⟨gl,4,none⟩ (.int .i64 z)):=(World.ownsRow.stored h 4 (.int .i64 z)).1
theorem RowS.lt {B gl cl gb:Nat} {x y:Int} {w:World} (h:RowS B gl cl gb x y w):B<=gl/\gl < w.heap.size:=World.ownsRow.lt h gl rfl
theorem RowS.bk_ne {B gl cl gb g:Nat} {x y:Int} {w:World} {t:TypeId} {cs:Array Value} (h:RowS B gl cl gb x y w) (hg:Bk w g t cs) (hne:226≠t):g≠gl:=fun e=>aZ h hg hne (by rw [e];rfl)
def aIM (W0:World) (B gl cl gb:Nat) (w1:World):Prop:=Keep (fun b=>b=gl) W0 w1/\∃x y,RowS B gl cl gb x y w1
def aIL (B gl cl gb:Nat) (N O:Int) (j:Nat) (w1 w2:World):Prop:=
 (j=14->Keep (fun b=>b=gl) w1 w2/\∀x y,RowS B gl cl gb x y w1->RowS B gl cl gb N y w2)/\(j=17->Keep (fun b=>b=gl) w1 w2/\∀x y,RowS B gl cl gb x y w1->RowS B gl cl gb x O w2)/\(j≠14->j≠17->Grow w1 w2)
theorem cO {B gl cl gb:Nat} {N O:Int} {j:Nat} {w1 w2:World} (h1:j≠14) (h2:j≠17) (h:Grow w1 w2):aIL B gl cl gb N O j w1 w2:=⟨fun e=>absurd e h1,fun e=>absurd e h2,fun _ _=>h⟩
theorem aEO {W0 w1 w2:World} {B gl cl gb j:Nat} {N O:Int} (h:aIM W0 B gl cl gb w1) (k:aIL B gl cl gb N O j w1 w2):aIM W0 B gl cl gb w2:=by
 obtain ⟨h1,x,y,h2⟩:=h;by_cases h14:j=14;obtain ⟨k1,k2⟩:=k.1 h14;exact ⟨h1.trans k1,_,_,k2 x y h2⟩;by_cases h17:j=17;obtain ⟨k1,k2⟩:=k.2.1 h17;exact ⟨h1.trans k1,_,_,k2 x y h2⟩;have kg:=k.2.2 h14 h17;exact ⟨h1.trans (Keep.of_below kg),x,y,h2.grow kg⟩
def N3 (B gl cl gb:Nat) (N:Int):Value->World->Prop:=fun _ w1=>∃y,RowS B gl cl gb N y w1
def N4 (B gl cl gb:Nat) (O:Int):Value->World->Prop:=fun _ w1=>∃x,RowS B gl cl gb x O w1
theorem pY (gt ga gl cl gb B:Nat) (rt v:Int) (bs:List Bool) (w:World) (ht:Bk w gt 223 #[.pointer (some ⟨ga,0,none⟩),.slice (some ⟨gl,0,none⟩) 1 cl,.int .i64 rt,.int .i64 v]) {x0 y0:Int} (hr:RowS B gl cl gb x0 y0 w) (hb:Bk w gb 254 (gK bs)) (hl:bs.length<=128):
 Calls Tryz.prog 274 #[.pointer (some ⟨gt,0,none⟩),.int .i64 0] w fun e w'=>e=.returned (.tuple #[])/\Keep (fun b=>b=gl) w w'/\RowS B gl cl gb (bs.length:Int) ((bs.count true:Nat):Int) w':=by
 obtain ⟨N,hN⟩:∃N:Int,(bs.length:Int)=N:=⟨_,rfl⟩;obtain ⟨O,hO⟩:∃O:Int,((bs.count true:Nat):Int)=O:=⟨_,rfl⟩;rw [hN,hO];obtain ⟨HN,HO⟩:=hqq2 hN hO;have c1:w.cell? ⟨gt,1,none⟩=some (.slice (some ⟨gl,0,none⟩) 1 cl):=(ht.cell 1).trans rfl;have c7:w.cell? ⟨gl,7,none⟩=some (.pointer (some ⟨gb,0,none⟩)):=(World.ownsRow.cellAt hr 7 oM).trans rfl;have hglt:=hr.lt;have hbne:=hr.bk_ne hb dC;obtain ⟨Hb,Hr⟩:=hqq2 hb hr;clear hN hO ht hb hr;go_enter Tryz.func274,Tryz.ntmps274;go_wp2;refine wp_region_any kR ?_;refine oW [18,19,20,21,22,23,24,25,26,27,28,29,30,31,32,33] (aIM w B gl cl gb) (aIL B gl cl gb N O) (fun _ _=>True) (Vs [is (.pointer (some ⟨gl,0,none⟩)),is (.pointer (some ⟨gl,0,none⟩)),is (.pointer (some ⟨gl,0,none⟩)),is (.pointer (some ⟨gl,0,none⟩)),is (.pointer (some ⟨gl,7,none⟩)),is (.pointer (some ⟨gb,0,none⟩)),is (.int .i64 N),is (.pointer (some ⟨gl,0,none⟩)),is (.pointer (some ⟨gl,0,none⟩)),is (.pointer (some ⟨gl,7,none⟩)),is (.pointer (some ⟨gb,0,none⟩)),is (.int .i64 O),is (.pointer (some ⟨gl,0,none⟩)),is (.pointer (some ⟨gl,3,none⟩)),N3 B gl cl gb N,is (.pointer (some ⟨gl,0,none⟩)),is (.pointer (some ⟨gl,4,none⟩)),N4 B gl cl gb O]) _ _ rfl kR ⟨⟨rfl,rfl,rfl,zAs _,fun _ _ _=>rfl⟩,_,_,Hr.out⟩ (fun _=>trivial) (fun j w1 w2 h k=>aEO h k) (fun _ _ _ _ _ _ _ _ _=>trivial) ?_ ?_ ?_;intro i j v w1 w2 hij haf hv hC k;rcases i with _ | _ | _ | _ | _ | _ | _ | _ | _ | _ | _ | _ | _ | _ | _ | _ | _ | _ | i;exact hv;exact hv;exact hv;exact hv;exact hv;exact hv;exact hv;exact hv;exact hv;exact hv;exact hv;exact hv;exact hv;exact hv;obtain ⟨y,hv⟩:=hv;by_cases h17:j=17;exact ⟨_,(k.2.1 h17).2 _ _ hv⟩;exact ⟨_,RowS.grow hv (k.2.2 (fun e=>hij e.symm) h17)⟩;exact hv;exact hv;obtain ⟨x,hv⟩:=hv;by_cases h14:j=14;exact ⟨_,(k.1 h14).2 _ _ hv⟩;exact ⟨_,RowS.grow hv (k.2.2 h14 (fun e=>hij e.symm))⟩;exact trivial
 · refine aT ?_;refine sC3 (fun ev _ hS _ _ _ hold _ _ _ _ hK=>?_) ?_
   · obtain ⟨hk5,x5,y5,hr5⟩:=hS;have e4:ev (.tmp 4)=.pointer (some ⟨gl,0,none⟩):=hold 4 kR;go_simp;exact hK _ _ (cO dC dC bR) rfl
   refine sC3 (fun ev _ hS _ _ _ hold _ _ _ _ hK=>?_) ?_
   · obtain ⟨hk5,x5,y5,hr5⟩:=hS;have e4:ev (.tmp 4)=.pointer (some ⟨gl,0,none⟩):=hold 4 kR;go_simp;exact hK _ _ (cO dC dC bR) rfl
   refine sC3 (fun ev _ hS _ _ _ hold _ _ _ _ hK=>?_) ?_
   · obtain ⟨hk5,x5,y5,hr5⟩:=hS;have e4:ev (.tmp 4)=.pointer (some ⟨gl,0,none⟩):=hold 4 kR;go_simp;exact hK _ _ (cO dC dC bR) rfl
   refine sC3 (fun _ _ hS _ _ _ _ hval _ _ _ hK=>?_) ?_
   · obtain ⟨hk5,x5,y5,hr5⟩:=hS;have e20:_=_:=hval 2 20 kR rfl;go_simp;exact hK _ _ (cO dC dC bR) rfl
   refine sC3 (fun _ _ hS _ _ _ _ hval _ _ _ hK=>?_) ?_
   · obtain ⟨hk5,x5,y5,hr5⟩:=hS;have e21:_=_:=hval 3 21 kR rfl;go_simp;exact hK _ _ (cO dC dC bR) rfl
   refine sC3 (fun _ w5 hS _ _ _ _ hval _ _ _ hK=>?_) ?_
   · obtain ⟨hk5,x5,y5,hr5⟩:=hS;have e22:_=_:=hval 4 22 kR rfl;have d7:w5.cell? ⟨gl,7,none⟩=some (.pointer (some ⟨gb,0,none⟩)):=(World.ownsRow.cellAt hr5 7 oM).trans rfl;go_simp;exact hK _ _ (cO dC dC bR) rfl
   refine sC3 (fun _ w5 hS _ _ _ _ hval _ _ _ hK=>?_) ?_
   · obtain ⟨hk5,x5,y5,hr5⟩:=hS;have e23:_=_:=hval 5 23 kR rfl;have hb5:=hk5.bk Hb.out (fun e=>hbne e);go_simp;refine (qU gb bs w5 hb5).mono ?_;rintro e w8 ⟨rfl,rfl⟩;exact hK _ _ (cO dC dC bR) (eB HN.out)
   refine sC3 (fun ev _ hS _ _ _ hold _ _ _ _ hK=>?_) ?_
   · obtain ⟨hk5,x5,y5,hr5⟩:=hS;have e4:ev (.tmp 4)=.pointer (some ⟨gl,0,none⟩):=hold 4 kR;go_simp;exact hK _ _ (cO dC dC bR) rfl
   refine sC3 (fun _ _ hS _ _ _ _ hval _ _ _ hK=>?_) ?_
   · obtain ⟨hk5,x5,y5,hr5⟩:=hS;have e25:_=_:=hval 7 25 kR rfl;go_simp;exact hK _ _ (cO dC dC bR) rfl
   refine sC3 (fun _ _ hS _ _ _ _ hval _ _ _ hK=>?_) ?_
   · obtain ⟨hk5,x5,y5,hr5⟩:=hS;have e26:_=_:=hval 8 26 kR rfl;go_simp;exact hK _ _ (cO dC dC bR) rfl
   refine sC3 (fun _ w5 hS _ _ _ _ hval _ _ _ hK=>?_) ?_
   · obtain ⟨hk5,x5,y5,hr5⟩:=hS;have e27:_=_:=hval 9 27 kR rfl;have d7:w5.cell? ⟨gl,7,none⟩=some (.pointer (some ⟨gb,0,none⟩)):=(World.ownsRow.cellAt hr5 7 oM).trans rfl;go_simp;exact hK _ _ (cO dC dC bR) rfl
   refine sC3 (fun _ w5 hS _ _ _ _ hval _ _ _ hK=>?_) ?_
   · obtain ⟨hk5,x5,y5,hr5⟩:=hS;have e28:_=_:=hval 10 28 kR rfl;have hb5:=hk5.bk Hb.out (fun e=>hbne e);go_simp;refine (yI gb bs w5 hb5 hl).mono ?_;rintro e w8 ⟨rfl,rfl⟩;exact hK _ _ (cO dC dC bR) (eB HO.out)
   refine sC3 (fun _ _ hS _ _ _ _ hval _ _ _ hK=>?_) ?_
   · obtain ⟨hk5,x5,y5,hr5⟩:=hS;have e18:_=_:=hval 0 18 kR rfl;go_simp;exact hK _ _ (cO dC dC bR) rfl
   refine sC3 (fun _ _ hS _ _ _ _ hval _ _ _ hK=>?_) ?_
   · obtain ⟨hk5,x5,y5,hr5⟩:=hS;have e30:_=_:=hval 12 30 kR rfl;go_simp;exact hK _ _ (cO dC dC bR) rfl
   refine sC3 (fun _ w5 hS _ _ _ _ hval _ _ _ hK=>?_) ?_
   · obtain ⟨hk5,x5,y5,hr5⟩:=hS;have e31:_=_:=hval 13 31 kR rfl;have e24:_=_:=hval 6 24 kR rfl;have d3:w5.cell? ⟨gl,3,none⟩=some (.int .i64 x5):=(World.ownsRow.cellAt hr5 3 oM).trans rfl;have f3:=World.ownsRow.frozenAt hr5 3;go_simp;exact hK (.bool true) _ ⟨fun _=>⟨Keep.setCell (F:=fun b=>b=gl) (Keep.refl _ _) (p:=⟨gl,3,none⟩) (.inl rfl) _,fun x y h=>h.at3 N⟩,fun e=>absurd e dC,fun e=>absurd rfl e⟩ ⟨y5,hr5.at3 N⟩
   refine sC3 (fun _ _ hS _ _ _ _ hval _ _ _ hK=>?_) ?_
   · obtain ⟨hk5,x5,y5,hr5⟩:=hS;have e19:_=_:=hval 1 19 kR rfl;go_simp;exact hK _ _ (cO dC dC bR) rfl
   refine sC3 (fun _ _ hS _ _ _ _ hval _ _ _ hK=>?_) ?_
   · obtain ⟨hk5,x5,y5,hr5⟩:=hS;have e32:_=_:=hval 15 32 kR rfl;go_simp;exact hK _ _ (cO dC dC bR) rfl
   refine sC3 (fun _ w5 hS _ _ _ _ hval _ _ _ hK=>?_) ?_
   · obtain ⟨hk5,x5,y5,hr5⟩:=hS;have e33:_=_:=hval 16 33 kR rfl;have e29:_=_:=hval 11 29 kR rfl;have d4:w5.cell? ⟨gl,4,none⟩=some (.int .i64 y5):=(World.ownsRow.cellAt hr5 4 oM).trans rfl;have f4:=World.ownsRow.frozenAt hr5 4;go_simp;exact hK (.bool true) _ ⟨fun e=>absurd e dC,fun _=>⟨Keep.setCell (F:=fun b=>b=gl) (Keep.refl _ _) (p:=⟨gl,4,none⟩) (.inl rfl) _,fun x y h=>h.at4 O⟩,fun _ e=>absurd rfl e⟩ ⟨x5,hr5.at4 O⟩
   exact aG
 · intro ev w6 hS hval hall;obtain ⟨hk6,_⟩:=hS;obtain ⟨_,y6,h14⟩:∃v,N3 B gl cl gb N v w6:=hall 14 dC;obtain ⟨_,x6,h17⟩:∃v,N4 B gl cl gb O v w6:=hall 17 dC;have hfin:RowS B gl cl gb N O w6:=(by have q4:=(World.ownsRow.cellAt h14 4 oM).symm.trans (World.ownsRow.cellAt h17 4 oM);have q5:y6=O:=(by simpa [yU] using q4);rw [<-q5];exact h14);simp only [aO,zq1,zq2,Act.put,zq3,zq4,zq5];clear hval hall;go_wp2;exact bodyPost_ret (results_none rfl _ _ _) rfl ⟨rfl,hk6,hfin⟩
end Go.Proofs.YtnhmjomhloainaaGreatDoor
