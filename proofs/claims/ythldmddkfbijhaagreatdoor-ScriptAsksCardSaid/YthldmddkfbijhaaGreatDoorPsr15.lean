/- Lemmas of the walk. Conditions: each its own. -/
import Derived.Test.YthldmddkfbijhaaGreatDoorPsr12
import Derived.Test.YthldmddkfbijhaaGreatDoorProg
import Derived.Test.YthldmddkfbijhaaGreatDoorShl
import Derived.Test.YthldmddkfbijhaaGreatDoorSht
set_option linter.all false
set_option maxRecDepth 100000
set_option maxHeartbeats 1000000
namespace Go.Proofs.YthldmddkfbijhaaGreatDoor
section
open Go.RowKit
theorem aET:(Tryz.prog.info? 175).map (fun i=>(i.zero,i.size,i.bytes))=some (some (.slice none 0 0),1,24):=by kernel_rfl
theorem aD4:(Tryz.prog.info? 157).map (fun i=>(i.zero,i.size,i.bytes))=some (some (.agg #[.pointer none,.int .i64 0,.int .i64 0]),3,24):=by kernel_rfl
theorem aH0 (n:Nat) (hn:n<=1000000) (w:World):(Instr.makeSlice 249 (.int .i64 (n:Int)) (.int .i64 (n:Int))).run Tryz.prog w=.ok (.slice (some ⟨w.heap.size,0,none⟩) n n) (w.alloc (.cells (rowC (fun _=>.slice none 0 0) n) 175)):=by
 obtain ⟨i0,hi0,hz0,hz1,hz2⟩:=info_parts aET;have:=run_make (P:=Tryz.prog) w 249 175 i0 (.slice none 0 0) Tryz.underlying249 hi0 hz0 .i64 .i64 n n oM (Int.le_refl _) (by rw [hz2];omega) oM;rw [this,hz1,aEa];have e:madeCells #[.slice none 0 0] n=Array.replicate n (.slice none 0 0):=by apply Array.ext';rw [toList_madeCells_one];simp
 simp only [Value.cells,zBr,zBl];rw [e]
theorem Gw.gw {F:Nat->Prop} {n m:Nat} (h:n<=m):∀b,Gw (Gw F n) m b->Gw F n b:=fun b hb=>by
 rcases hb with hb | hb;exact hb;exact .inr oM
theorem vK:(Tryz.prog.info? 5).map (fun i=>(i.zero,i.size,i.bytes))=some (some (.int .u8 0),1,1):=by kernel_rfl
theorem aJg (n:Nat) (w:World) (hn:n<=1099511627776):
 Calls Tryz.prog 102 #[.slice none 0 0,(n:Int)] w fun e w'=>∃v,e=.returned v/\w'.ownsRow w.heap.size 5 1 v 0 []/\Below w.heap.size w w':=by
 obtain ⟨i0,hi0,hz0,hz1,hz2⟩:=info_parts vK;rcases zBa n with h0 | h0
 · subst h0;go_enter Tryz.func102,Tryz.ntmps102;go_wp2;go_ret;exact ⟨_,rfl,World.ownsRow_nil _ _ _ _,Below.refl _ _⟩
 · have hrun:=Lib.run_append_nil_zeros (P:=Tryz.prog) w 26 3 26 5 i0 (.int .u8 0) .i64 .i64 Tryz.underlying26 Tryz.underlying3 hi0 hz0 n h0 oM oM (by rw [hz2];omega);have hge:=grownCap_ge w n 0 5;have hle:=grownCap_le_maxLen w n 0 5 (by unfold maxLen;omega);generalize grownCap w n 0 5=cp at*
   have hsz:(Builtin.zeroCells (Value.int .u8 0).cells n++Builtin.zeroCells (Value.int .u8 0).cells (cp - n)).size=cp*1:=(by simp [Builtin.zeroCells,Value.cells];omega);obtain ⟨Hsz,Hrun⟩:=hqq2 hsz hrun;clear hsz hrun;have hdec:¬((n:Int) < 0):=oM;go_enter Tryz.func102,Tryz.ntmps102;go_wp2_with (at_builtin;refine Lib.wpList_append_run _ rfl (.tmp 20) (.tmp 21) _ _ rfl _ _ rfl rfl _ _ Hrun.out ?_);go_ret;exact ⟨_,rfl,World.ownsRow_made _ _ _ nL hle Hsz.out,bR.drew.alloc nL _⟩
structure Sl where
 A:Option Addr
 n:Nat
 c:Nat
 l:List UInt8
def slV (s:Sl):Value:=.slice s.A s.n s.c
def iE (ss:List Sl):List UInt8:=ss.flatMap (·.l)
theorem aAN (ss:List Sl) (k:Nat) (s:Sl) (h:ss[k]?=some s):iE (ss.take (k+1))=iE (ss.take k)++s.l:=by
 rw [zAv,h];simp [iE]
theorem aBB (ss:List Sl) (k:Nat):(iE (ss.take k)).length<=(iE ss).length:=by
 have:iE ss=iE (ss.take k)++iE (ss.drop k):=by unfold iE;rw [<-List.flatMap_append,zAu]
 rw [this,zAi];omega
theorem nD (A0:Option Addr) (m0 c0 B:Nat) (ss:List Sl) (T:List UInt8) (N:Nat) (hT:iE ss=T) (hN:T.length=N) (w:World) (hr0:Rd w B 1 A0 m0 (ss.map slV)) (hss:∀s∈ss,Rd w B 1 s.A s.n (s.l.map bv)) (hB:B<=w.heap.size) (hm:m0<=1099511627776) (hn:N<=1099511627776):
 Calls Tryz.prog 41 #[.slice A0 m0 c0] w fun e w'=>∃A' c',e=.returned (.slice A' N c')/\Made w' w.heap.size 5 1 A' N c' (T.map bv)/\Below w.heap.size w w':=by
 obtain ⟨i0,hi0,hz0,hz1,hz2⟩:=info_parts vK;have hlen:ss.length=m0:=by simpa using hr0.1
 have hpart:∀k,(iE (ss.take k)).length<=1099511627776:=fun k=>by have:=aBB ss k;rw [hT] at this;omega
 have hrow:∀k s,ss[k]?=some s->s.l.length=s.n/\(iE (ss.take (k+1))).length=(iE (ss.take k)).length+s.n:=fun k s hs=>by
  have h1:=(hss s (zAd hs)).1;have h2:s.l.length=s.n:=by simpa using h1
  rw [aAN ss k s hs,zAi,h2];exact ⟨rfl,rfl⟩
 obtain ⟨Hlen,Hpart,Hrow,Hr0,Hss,HT,HN⟩:=hqq7 hlen hpart hrow (hr0.mono hB) (fun s hs=>(hss s hs).mono hB) hT hN;clear hlen hpart hrow hr0 hss hT hN;go_enter Tryz.func41,Tryz.ntmps41;go_wp2;go_loopw [3,11] (fun v i wr=>∃k:Nat,k<=m0/\i=.int .i64 k/\v=.int .i64 ((iE (ss.take k)).length:Int)/\w=wr) (fun _ i _=>m0 -(intOf i).toNat)
 case atStart=>exact ⟨0,zAp _,rfl,by simp [iE],rfl⟩
 case round=>
  obtain ⟨k,hk,rfl,rfl,rfl⟩:=hrel;by_cases hlt:k < m0
  · obtain ⟨s,hs⟩:∃s,ss[k]?=some s:=⟨ss[k]'(by have:=Hlen.out;omega),zAa (by have:=Hlen.out;omega)⟩;obtain ⟨b,off,u,rfl,hbl,hu,hc⟩:=Hr0.out.get hlt;rw [zAf,hs] at hu;simp at hu;subst hu;unfold slV at hc;obtain ⟨h1,h2⟩:=Hrow.out k s hs;have h3:=Hpart.out (k+1);generalize hq:(iE (ss.take k)).length=q at*
    have Hnext:=lhd h2;rw [h2] at h3;clear h1 h2 hs hq;have hneg:¬((q:Int)+(s.n:Int) < 0):=oM;go_wp2;go_roundw
    case rel=>exact ⟨k+1,by omega,by go_num,by rw [Hnext.out];go_num,trivial⟩
    case measure=>simp [intOf];omega
  · have hkm:k=m0:=oM;have hge:m0<=k:=oM;have htk:ss.take k=ss:=zAg (by have:=Hlen.out;omega);rw [htk,HT.out,HN.out];clear hkm htk;go_wp2_with fail;refine (aJg N _ hn).mono ?_;rintro e w1 ⟨v1,rfl,hown1,hb1⟩;go_wp2_with fail;go_loopw [6,27] (fun v i wr=>∃k:Nat,k<=m0/\i=.int .i64 k/\wr.ownsRow w.heap.size 5 1 v (iE (ss.take k)).length ((iE (ss.take k)).map bv)/\Below w.heap.size w wr) (fun _ i _=>m0 -(intOf i).toNat)
    case atStart=>exact ⟨0,zAp _,rfl,hown1,hb1⟩
    case round=>
        obtain ⟨k,hk,rfl,hown,hb⟩:=hrel;have hsz:=hb.size;by_cases hlt:k < m0
        · obtain ⟨s,hs⟩:∃s,ss[k]?=some s:=⟨ss[k]'(by have:=Hlen.out;omega),zAa (by have:=Hlen.out;omega)⟩;obtain ⟨b,off,u,rfl,hbl,hu,hc⟩:=(Hr0.out.below hb).get hlt;rw [zAf,hs] at hu;simp at hu;subst hu;unfold slV at hc;have hrs:=lhd ((Hss.out s (zAd hs)).below hb);obtain ⟨h1,h2⟩:=Hrow.out k s hs;have h3:=Hpart.out (k+1);obtain ⟨hsn,Hnext⟩:=hqq2 (aAN ss k s hs) h2;generalize hq:(iE (ss.take k)).length=q at*
          rw [h2] at h3;have Hown:=lhd hown;clear h1 h2 hs hown;go_wp2_with (at_builtin;refine aX _ rfl (.tmp 31) (.tmp 32) _ rfl w.heap.size 5 i0 (.int .u8 0) 1 1 Tryz.underlying26 hi0 hz0 hz1 hz2 rfl dC _ q _ rfl Hown.out w.heap.size s.A s.n s.c _ rfl hrs.out (iM _) (by unfold maxLen;omega) oM hsz ?_;intro v5 w5 hown5 hg5 hat5);have hB5:=aZ hb Hown.out hg5 hsz;go_roundw
          case rel=>refine ⟨k+1,by omega,by go_num,?_,hB5⟩;rw [Hnext.out,hsn.out,zAz];exact hown5
          case measure=>simp [intOf];omega
        · have hkm:k=m0:=oM;have hge:m0<=k:=oM;have htk:ss.take k=ss:=zAg (by have:=Hlen.out;omega);rw [htk,HT.out,HN.out] at hown;obtain ⟨A',c',rfl,hm'⟩:=aS hown;clear hkm htk hown;go_wp2;go_ret;exact ⟨A',c',rfl,hm',hb⟩
theorem uD {L L':List Nat} (h:L.Perm L'):tcells L=tcells L':=by
 refine pU _ _ (eM L) (fun s hs=>?_) ?_
 · rw [dR L hs,h.count_eq]
 · rw [iJ,h.length_eq]
def kS (k:IntKind) (n:Nat) (f:Nat->Nat):Array Value:=((List.range n).map fun i=>Value.int k ((f i:Nat):Int)).toArray
theorem lX (k:IntKind) (n:Nat) (f:Nat->Nat):(kS k n f).size=n:=by simp [kS]
theorem gE {k:IntKind} {n:Nat} {f:Nat->Nat} {i:Nat} (h:i < n):(kS k n f)[i]?=some (.int k ((f i:Nat):Int)):=by
 unfold kS;rw [zCw,zAf,zCk h];rfl
theorem tU {k:IntKind} {n:Nat} {f:Nat->Nat} {i:Nat} (h:¬i < n):(kS k n f)[i]?=none:=Array.getElem?_eq_none (by rw [lX];omega)
theorem dE {k:IntKind} {n:Nat} {f g:Nat->Nat} (h:∀i,i < n->f i=g i):kS k n f=kS k n g:=by
 unfold kS;congr 1;exact List.map_congr_left fun i hi=>by rw [h i (zCj.1 hi)]
theorem lY {k:IntKind} {n:Nat} {f:Nat->Nat} {i v:Nat} (h:i < n):(kS k n f).setIfInBounds i (.int k ((v:Nat):Int))=kS k n (fun j=>if j=i then v else f j):=by
 apply Array.ext_getElem?;intro j;rw [zCd,lX];by_cases hj:j < n
 · rw [gE hj,gE hj];by_cases e:i=j
   · subst e;rw [zBx rfl,zBx hj,zBx rfl]
   · rw [zBw e,zBw (fun h=>e h.symm)]
 · rw [tU hj,tU hj];by_cases e:i=j
   · subst e;rw [zBx rfl,zBw hj]
   · rw [zBw e]
theorem pD (k:IntKind) (n:Nat):Array.replicate n (Value.int k 0)=kS k n (fun _=>0):=by
 apply Array.ext_getElem?;intro j;by_cases hj:j < n;rw [gE hj,Array.getElem?_replicate,zBx hj];rfl
 · rw [tU hj,Array.getElem?_replicate,zBw hj]
theorem aGO (k:IntKind) (n:Nat) (f:Nat->Nat):(kS k n f).toList=(List.range n).map fun i=>Value.int k ((f i:Nat):Int):=rfl
theorem mT (a b:Nat) (ha:a < 4294967296) (hb:b < 4294967296):bits .xor .u32 (a:Int) (b:Int)=((a ^^^ b:Nat):Int):=by
 have hx:a ^^^ b < 2 ^ 32:=Nat.xor_lt_two_pow oM oM;have h1:(BitVec.ofInt 32 (a:Int)).toNat=a:=by rw [BitVec.ofInt_natCast,BitVec.toNat_ofNat];exact zBu oM
 have h2:(BitVec.ofInt 32 (b:Int)).toNat=b:=by rw [BitVec.ofInt_natCast,BitVec.toNat_ofNat];exact zBu oM
 show IntKind.u32.wrap ((BitVec.ofInt 32 (a:Int)^^^ BitVec.ofInt 32 (b:Int)).toNat:Int)=_;rw [BitVec.toNat_xor,h1,h2,IntKind.wrap_u32];omega
theorem aC2 (a b:Nat) (ha:a < 256) (hb:b < 256):bits .xor .u8 (a:Int) (b:Int)=((a ^^^ b:Nat):Int):=by
 have hx:a ^^^ b < 2 ^ 8:=Nat.xor_lt_two_pow oM oM;have h1:(BitVec.ofInt 8 (a:Int)).toNat=a:=by rw [BitVec.ofInt_natCast,BitVec.toNat_ofNat];exact zBu oM
 have h2:(BitVec.ofInt 8 (b:Int)).toNat=b:=by rw [BitVec.ofInt_natCast,BitVec.toNat_ofNat];exact zBu oM
 show IntKind.u8.wrap ((BitVec.ofInt 8 (a:Int)^^^ BitVec.ofInt 8 (b:Int)).toNat:Int)=_;rw [BitVec.toNat_xor,h1,h2,IntKind.wrap_u8];omega
theorem aBE (a:Nat) (ha:a < 4294967296):bits .and .u32 (a:Int) 1=((a % 2:Nat):Int):=by
 have h1:(BitVec.ofInt 32 (a:Int)).toNat=a:=by rw [BitVec.ofInt_natCast,BitVec.toNat_ofNat];exact zBu oM
 show IntKind.u32.wrap ((BitVec.ofInt 32 (a:Int)&&& BitVec.ofInt 32 (1:Int)).toNat:Int)=_;rw [BitVec.toNat_and,h1];have h2:(BitVec.ofInt 32 (1:Int)).toNat=1:=dC;rw [h2,IntKind.wrap_u32,Nat.and_one_is_mod];omega
theorem aDK (s:Nat) (hs:s < 4294967296) (w:World):
 Calls Tryz.prog 207 #[.int .u32 (s:Int),.bool false] w fun e w'=>e=.returned (.int .u32 ((mS s:Nat):Int))/\Below w.heap.size w w':=by
 have e1:=aBE s hs;go_enter Tryz.func207,Tryz.ntmps207;go_wp2_with fail
 · go_ret;refine ⟨?_,Below.refl _ _⟩
   rename_i h
   have h':s % 2=1:=(by have:=eq_of_beq h;omega);have e2:((s:Int)/ 2)=((s / 2:Nat):Int):=oM;have e3:(3988292384:Int)=((3988292384:Nat):Int):=rfl;show Ending.returned (Value.int .u32 (bits .xor .u32 ((s:Int)/ 2) 3988292384))=_;rw [e2,e3,mT _ _ oM oM,mS,zBx h']
 · go_ret;refine ⟨?_,Below.refl _ _⟩
   rename_i h
   have h':¬s % 2=1:=(by intro h2;have:((s:Int)% 2==1)=true:=zCq.2 oM;rw [this] at h;cases h);show Ending.returned (Value.int .u32 ((s:Int)/ 2))=_;rw [mS,zBw h'];rfl
def zM (i v:Nat):Nat->Nat:=fun p=>if p < i then kK p else if p=i then v else 0
theorem aHE (i v u:Nat):(fun p=>if p=i then u else zM i v p)=zM i u:=by
 funext p;unfold zM;by_cases h:p=i
 · rw [zBx h,zBw oM,zBx h]
 · rw [zBw h];by_cases h2:p < i
   · rw [zBx h2,zBx h2]
   · rw [zBw h2,zBw h2,zBw h,zBw h]
theorem aFX (i:Nat):zM i (kK i)=zM (i+1) 0:=by
 funext p;unfold zM;by_cases h:p < i
 · rw [zBx h,zBx oM]
 · rw [zBw h];by_cases h2:p=i
   · subst h2;rw [zBx rfl,zBx oM]
   · rw [zBw h2,zBw oM];split <;> rfl
@[irreducible] def crcC:Array Value:=kS .u32 256 kK
@[irreducible] def tabC (i v:Nat):Array Value:=kS .u32 256 (zM i v)
theorem aCg {i v u:Nat} (h:i < 256):(tabC i v).setIfInBounds i (.int .u32 (u:Int))=tabC i u:=by
 unfold tabC;rw [lY h,aHE]
theorem wL {i v:Nat} (h:i < 256):(tabC i v)[i]?=some (.int .u32 (v:Int)):=by
 unfold tabC;rw [gE h];unfold zM;rw [zBw oM,zBx rfl]
theorem aFZ (i:Nat):tabC i (rY 8 i)=tabC (i+1) 0:=by
 unfold tabC;rw [<-aFX];rfl
theorem aAz:Array.replicate 256 (Value.int .u32 0)=tabC 0 0:=by
 unfold tabC;rw [pD];exact dE fun i hi=>by unfold zM;rw [zBw oM];split <;> rfl
theorem aHF (v:Nat):tabC 256 v=crcC:=by
 unfold tabC crcC;exact dE fun i hi=>by unfold zM;rw [zBx hi]
theorem aIU {i:Nat} (h:i < 256):crcC[i]?=some (.int .u32 ((kK i:Nat):Int)):=by
 unfold crcC;exact gE h
theorem pA:crcC.size=256:=by unfold crcC;exact lX _ _ _
theorem aFY (i v:Nat):(tabC i v).size=256:=by unfold tabC;exact lX _ _ _
theorem aFV {w w':World} {tmps:Array Value} {g:Nat} (hp:tmps.getD 0 undef=.pointer (some ⟨g,0,none⟩)) (hb:Bk w' g 196 crcC) (hz:(Tryz.prog.info? 196).map (·.size)=some crcC.size) (hk:Below w.heap.size w w'):
 bodyPost Tryz.prog Tryz.f162 (fun e w'=>e=.returned (.agg crcC)/\Below w.heap.size w w') .ret ⟨tmps, []⟩ w':=
 bodyPost_ret (results_cell_row (P:=Tryz.prog) (fn:=Tryz.f162) (p:=0) (ty:=196) rfl tmps w' g 196 crcC (0,0) _ hp hb Tryz.underlying196 rfl hz) rfl ⟨rfl,hk⟩
theorem aKo (y:Nat) (h:y < 4294967296):bits .xor .u32 IntKind.u32.max (y:Int)=((4294967295 - y:Nat):Int):=by
 have e:IntKind.u32.max=((4294967295:Nat):Int):=dC;rw [e,mT _ _ oM h];congr 1;have e1:(4294967295:Nat)^^^ y=(BitVec.allOnes 32 ^^^ BitVec.ofNat 32 y).toNat:=by rw [BitVec.toNat_xor,BitVec.toNat_ofNat,zBu (by omega:y < 2 ^ 32)];rfl
 rw [e1,BitVec.allOnes_xor,BitVec.toNat_not,BitVec.toNat_ofNat,zBu (by omega:y < 2 ^ 32)]
theorem aB7 (w:World):
 Calls Tryz.prog 162 #[] w fun e w'=>e=.returned (.agg crcC)/\Below w.heap.size w w':=by
 go_enter Tryz.func162,Tryz.ntmps162;go_wp2_with fail;go_loopw [3] (fun i wr=>∃(k:Nat) (v:Nat),k<=256/\i=.int .i64 (k:Int)/\Bk wr w.heap.size 196 (tabC 0 0)/\Bk wr (w.heap.size+1) 196 (tabC k v)/\(k < 256->v=0)/\Below w.heap.size w wr) (fun i _=>256 -(intOf i).toNat)
 case atStart=>refine ⟨0,0,by omega,rfl,?_,?_,fun _=>rfl,?_⟩;rw [<-aAz];exact (Bk.new _ _ _).alloc _;rw [<-aAz];have h2:=Bk.new (w.alloc (.cells Tryz.zeroCells196 196)) 196 Tryz.zeroCells196;rw [show (w.alloc (.cells Tryz.zeroCells196 196)).heap.size=w.heap.size+1 by simp] at h2;exact h2;exact (bR.alloc nL _).alloc (by simp) _
 case round=>
  obtain ⟨k,v,hk,rfl,hb0,hb1,hv,hb⟩:=hrel;by_cases hlt:k < 256
  · have hv0:=hv hlt;subst hv0;have h1:((k:Int) < 256):=oM;have c1:wr.cell? ⟨w.heap.size+1,k,none⟩=some (.int .u32 0):=(hb1.cell k).trans (wL hlt);have f1:=hb1.frozen k;go_wp2_with fail;go_loopw [10] (fun i w2=>∃j:Nat,j<=8/\i=.int .i64 (j:Int)/\Bk w2 w.heap.size 196 (tabC 0 0)/\Bk w2 (w.heap.size+1) 196 (tabC k (rY j k))/\Below w.heap.size w w2) (fun i _=>8 -(intOf i).toNat)
    case atStart=>refine ⟨0,by omega,rfl,hb0.far (by simp) _,?_,hb.setCell (by simp) _⟩;have:=hb1.set k (.int .u32 (k:Int));rw [aCg hlt] at this;exact this
    case round=>
        obtain ⟨j,hj,rfl,hi0,hi1,hi⟩:=hrel;by_cases hlj:j < 8
        · have hj1:((j:Int) < 8):=oM;have c2:wr.cell? ⟨w.heap.size+1,k,none⟩=some (.int .u32 ((rY j k:Nat):Int)):=(hi1.cell k).trans (wL hlt);go_wp2_with fail;refine (aDK (rY j k) (xW oM j) _).mono ?_;rintro e w3 ⟨rfl,hb3⟩;have hk1:=hi1.below hb3 hi1.lt;have hk0:=hi0.below hb3 hi0.lt;have c3:w3.cell? ⟨w.heap.size+1,k,none⟩=some (.int .u32 ((rY j k:Nat):Int)):=(hk1.cell k).trans (wL hlt);have f3:=hk1.frozen k;go_wp2_with fail;go_roundw
          case rel=>refine ⟨j+1,by omega,by go_num,hk0.far (by simp) _,?_,(hi.trans (hb3.mono hi.size)).setCell (by simp) _⟩;have:=hk1.set k (.int .u32 ((mS (rY j k):Nat):Int));rw [aCg hlt] at this;exact this
          case measure=>simp [intOf];omega
        · have hks:j=8:=oM;subst hks;go_wp2_with fail;go_roundw
          case rel=>rw [aFZ] at hi1;exact ⟨k+1,0,by omega,by go_num,hi0,hi1,fun _=>rfl,hi⟩
          case measure=>simp [intOf];omega
  · have hks:k=256:=oM;subst hks;rw [aHF] at hb1;obtain ⟨H0,H1⟩:=hqq2 hb0 hb1;clear hb0 hb1;have hsz:(Tryz.prog.info? 196).map (·.size)=some crcC.size:=(by rw [pA];kernel_rfl);have hone:crcC.all (·.oneCell')=true:=(by unfold crcC kS;rw [Array.all_eq_true_iff_forall_mem];intro v hv;rw [List.mem_toArray,zAy] at hv;obtain ⟨p,_,rfl⟩:=hv;rfl);obtain ⟨HZ,HO⟩:=hqq2 hsz hone;clear hsz hone;go_wp2_with (first |(refine wpList_load_row (P:=Tryz.prog) rfl 196 (.tmp 1) rfl (w.heap.size+1) rfl 196 crcC (0,0) _ H1.out Tryz.underlying196 rfl HZ.out ?_)|(refine wpList_store_row (P:=Tryz.prog) rfl 196 (.tmp 0) (.tmp 20) rfl w.heap.size crcC rfl rfl 196 (tabC 0 0) H0.out HZ.out (by rw [aFY,pA]) HO.out ?_));exact aFV rfl (setRow_heap wr w.heap.size _ crcC _ _ H0.out) HZ.out (below_setRow hb nL _)
theorem aDL (s:Nat) (hs:s < 4294967296) (A:Option Addr) (n c:Nat) (b:List UInt8) (w:World) (hr:Rd w w.heap.size 1 A n (b.map bv)) (hn:n<=1099511627776):
 Calls Tryz.prog 103 #[.int .u32 (s:Int),.slice A n c] w fun e w'=>e=.returned (.int .u32 ((aBw s b:Nat):Int))/\Below w.heap.size w w':=by
 have hbl:b.length=n:=by have:=hr.1;simpa using this
 have H:=lhd hr;clear hr;have hsz:(Tryz.prog.info? 196).map (·.size)=some crcC.size:=by rw [pA];kernel_rfl
 have hone:crcC.all (·.oneCell')=true:=by unfold crcC kS;rw [Array.all_eq_true_iff_forall_mem];intro v hv;rw [List.mem_toArray,zAy] at hv;obtain ⟨p,_,rfl⟩:=hv;rfl
 obtain ⟨HZ,HO⟩:=hqq2 hsz hone;clear hsz hone;go_enter Tryz.func103,Tryz.ntmps103;go_wp2_with fail;refine (aB7 _).mono ?_;rintro e w1 ⟨rfl,hb1⟩;go_wp2_with (refine wpList_store_row (P:=Tryz.prog) rfl 196 (.tmp 5) (.tmp 8) rfl w1.heap.size crcC rfl rfl 196 Tryz.zeroCells196 (heap_alloc_new _ _) HZ.out (by rw [pA];kernel_rfl) HO.out ?_;rw [World.setRow_alloc_new]);rw [aKo s hs];have hl1:=hb1.size;go_loopw [0,13] (fun v i wr=>∃k:Nat,k<=n/\i=.int .i64 (k:Int)/\v=.int .u32 ((uM (b.take k) (4294967295 - s):Nat):Int)/\Bk wr w1.heap.size 196 crcC/\Below w.heap.size w wr) (fun _ i _=>n -(intOf i).toNat)
 case atStart=>exact ⟨0,by omega,rfl,by rw [List.take_zero];rfl,Bk.new _ _ _,hb1.alloc hl1 _⟩
 case round=>
  obtain ⟨k,hk,rfl,rfl,hb2,hb⟩:=hrel;by_cases hlt:k < n
  · obtain ⟨bk,off,u,rfl,hbb,hu,hcell⟩:=(H.out.below hb).get hlt;rw [zAf] at hu;obtain ⟨x,hx⟩:∃x,b[k]?=some x:=⟨_,zAa oM⟩;rw [hx] at hu;injection hu with hu;subst hu;have hst:b.take (k+1)=b.take k++ [x]:=(by rw [zAv,hx];rfl);have hsn:=xX (b.take k) x (4294967295 - s);rw [<-hst] at hsn;have hvl:=rZ (b.take k) (4294967295 - s) oM;obtain ⟨v,hv⟩:=eqx (uM (b.take k) (4294967295 - s));rw [hv] at hsn hvl;rw [hv];have hin:=aIT hvl x;have hxl:=x.toNat_lt;have e1:bits .xor .u8 ((v:Int)% 256) (x.toNat:Int)=(((v % 256)^^^ x.toNat:Nat):Int):=(by have:((v:Int)% 256)=((v % 256:Nat):Int):=oM;rw [this,aC2 _ _ oM hxl]);obtain ⟨y,hy⟩:=eqx ((v % 256)^^^ x.toNat);rw [hy] at hsn hin e1;have c1:wr.cell? ⟨w1.heap.size,y,none⟩=some (.int .u32 ((kK y:Nat):Int)):=(hb2.cell y).trans (aIU hin);have e2:bits .xor .u32 ((kK y:Nat):Int) ((v:Int)/ 256)=((kK y ^^^(v / 256):Nat):Int):=(by have:((v:Int)/ 256)=((v / 256:Nat):Int):=oM;rw [this,mT _ _ (aAM hin) oM]);unfold bv at hcell;go_wp2_with fail;go_roundw
    case rel=>exact ⟨k+1,by omega,by go_num,by rw [hsn],hb2,hb⟩
    case measure=>simp [intOf];omega
  · have hks:k=n:=oM;subst hks;rw [zAg (by omega:b.length<=k)];have e1:=aKo _ (rZ b (4294967295 - s) oM);go_wp2_with fail;go_ret;exact ⟨rfl,hb⟩
theorem uA (A AP:Option Addr) (n c cp:Nat) (b:List UInt8) (w:World) (hr:Rd w w.heap.size 1 A n (b.map bv)) (hn:n<=1099511627776) (hp:Rd w w.heap.size 1 AP 1 [.slice A n c]):
 Calls Tryz.prog 44 #[.slice AP 1 cp] w fun e w'=>e=.returned (.int .u32 ((nX b:Nat):Int))/\Below w.heap.size w w':=by
 obtain ⟨bk,off,u,rfl,hbb,hu,hcell⟩:=hp.get (k:=0) oM;injection hu with hu;subst hu;go_enter Tryz.func44,Tryz.ntmps44;go_wp2_with fail;go_loopw [3,8] (fun v i wr=>∃k:Nat,k<=1/\i=.int .i64 (k:Int)/\v=.int .u32 (((if k=0 then 0 else nX b):Nat):Int)/\Below w.heap.size w wr) (fun _ i _=>1 -(intOf i).toNat)
 case atStart=>exact ⟨0,by omega,rfl,rfl,Below.refl _ _⟩
 case round=>
  obtain ⟨k,hk,rfl,rfl,hb⟩:=hrel;by_cases hlt:k < 1
  · have hks:k=0:=oM;subst hks;have hcell:wr.cell? ⟨bk,off,none⟩=some (.slice A n c):=(hb.cell hbb).trans hcell;rw [zBx rfl];go_wp2_with fail;refine (aDL 0 oM A n c b wr ((hr.below hb).mono hb.size) hn).mono ?_;rintro e w1 ⟨rfl,hb1⟩;go_wp2_with fail;go_roundw
    case rel=>exact ⟨1,by omega,rfl,rfl,hb.trans (hb1.mono hb.size)⟩
    case measure=>simp [intOf]
  · have hks:k=1:=oM;subst hks;rw [zBw oM];go_wp2_with fail;go_ret;exact ⟨rfl,hb⟩
theorem sN (A:Option Addr) (n c B:Nat) (b:List UInt8) (w:World) (hr:Rd w B 1 A n (b.map bv)) (hB:B<=w.heap.size) (hn:n<=1000000):
 Calls Tryz.prog 42 #[.slice A n c] w fun e w'=>∃A' c',e=.returned (.slice A' (dV b).length c')/\Made w' w.heap.size 5 1 A' (dV b).length c' ((dV b).map bv)/\Below w.heap.size w w':=by
 have hbl:b.length=n:=by have:=hr.1;simpa using this
 obtain ⟨k0,hk0⟩:=eqx ((cA n).length);have hk1:k0<=11:=by rw [<-hk0];exact dG n
 obtain ⟨N,hN⟩:=eqx ((dV b).length);have hN2:N<=2000000:=by rw [<-hN,jV,hbl,hk0];omega
 obtain ⟨H,Hk0,HN,Hbl⟩:=hqq4 (hr.mono hB) hk0 hN hbl;have hcl:=aFK b;rw [hN];clear hr hk0 hN hbl;go_enter Tryz.func42,Tryz.ntmps42;go_wp2_with fail;refine (zC _ _ _ _ [n] _ (cA n) k0 (qJ n) Hk0.out (Rd.made _ _ 1 1 _ rfl) nL (by simp;omega) oM).mono ?_;rintro e w1 ⟨A1,c1,rfl,hm1,hb1⟩;have hb1':=((Below.refl w.heap.size w).alloc nL _).trans (hb1.mono (by simp));have hr1:=hm1.rd;obtain ⟨HA1,Hr1,Hb1⟩:=hqq3 (H.out.below hb1') hr1 hb1';have hs1:=hb1'.size;clear hm1 hb1 hb1' hr1;go_wp2_with fail;refine (uA A _ n c _ b _ (((HA1.out.alloc hs1 _).mono (by simp;omega))) oM (Rd.made _ _ 1 1 _ rfl)).mono ?_;rintro e w2 ⟨rfl,hb2⟩;have hb12:=((Below.refl w1.heap.size w1).alloc nL _).trans (hb2.mono (by simp));obtain ⟨HA2,Hr2,Hb2⟩:=hqq3 (HA1.out.below (hb12.mono hs1)) (Hr1.out.below hb12) (Hb1.out.trans (hb12.mono hs1));have hs2:=hb12.size;clear hb12 hb2 HA1 Hr1 Hb1;go_wp2_with fail;refine (aAZ (nX b) _).mono ?_;rintro e w3 ⟨A3,c3,rfl,hm3,hb3⟩;have hr3:=hm3.rd;obtain ⟨HA3,Hr3,Hf3,Hb3⟩:=hqq4 (HA2.out.below (hb3.mono oM)) (Hr2.out.below (hb3.mono oM)) hr3 (Hb2.out.trans (hb3.mono oM));have hs3:=hb3.size;clear hb3 hm3 hr3 HA2 Hr2 Hb2;go_wp2_with fail
 have hcat:=nD (some ⟨w3.heap.size,0,none⟩) 3 3 (w3.heap.size+1) [⟨A1,k0,c1,cA n⟩,⟨A,n,c,b⟩,⟨A3,4,c3,rV (nX b)⟩] (dV b) N (by unfold dV;rw [Hbl.out];simp [iE]) HN.out (w3.alloc (.cells #[.slice A1 k0 c1,.slice A n c,.slice A3 4 c3] 26)) ((Rd.made w3 _ 1 3 _ rfl).mono (by simp)) (by
  intro s hs;simp at hs;rcases hs with rfl | rfl | rfl;exact (Hr3.out.mono oM).alloc oM _ |>.mono oM;exact (HA3.out.mono oM).alloc oM _ |>.mono oM
  · exact (Hf3.out.alloc oM _).mono oM) (by simp) oM oM
 refine hcat.mono ?_;clear hcat;rintro e w4 ⟨A4,c4,rfl,hm4,hb4⟩;have Hm4:=lhd (hm4.mono (B':=w.heap.size) (by simp;have:=Hb3.out.size;omega));have Hb4:=lhd (Hb3.out.trans ((((Below.refl w3.heap.size w3).alloc nL _).trans (hb4.mono (by simp))).mono Hb3.out.size));clear hm4 hb4;go_wp2_with fail;go_ret;exact ⟨_,_,rfl,Hm4.out,Hb4.out⟩
def aIa (A:Option Addr) (n c at_:Nat):Array Value:=#[.slice A n c,.int .i64 (at_:Int),.bool false]
theorem nB (gr:Nat) (A:Option Addr) (n c B at_ to_ v most:Nat) (l:List UInt8) (w:World) (hb:Bk w gr 82 (aIa A n c at_)) (hr:Rd w B 1 A n (l.map bv)) (hnc:n<=c) (hcm:c<=maxLen) (hg:eI l (at_:Int)=(v,(to_:Int),0)) (hv:v<=most) (hm:most<=4611686018427387904):
 Calls Tryz.prog 46 #[gr,(most:Int)] w fun e w'=>e=.returned (.int .i64 (v:Int))/\Bk w' gr 82 (aIa A n c to_)/\Keep (fun b=>b=gr) w w':=by
 have c0:w.cell? ⟨gr,0,none⟩=some (.slice A n c):=hb.cell 0;have c1:w.cell? ⟨gr,1,none⟩=some (.int .i64 (at_:Int)):=hb.cell 1;have f1:=hb.frozen 1;obtain ⟨H,Hr,Hg,Hcm⟩:=hqq4 hb hr hg hcm;have n1:¬((v:Int) > (most:Int)):=oM;have n2:decide ((v:Int) > (most:Int))=false:=zBy n1;have n3:¬most < v:=oM;have n4:decide (most < v)=false:=zBy n3;have n5:IntKind.u64.wrap (most:Int)=(most:Int):=by rw [IntKind.wrap_u64];omega
 have n6:IntKind.i64.wrap (v:Int)=(v:Int):=by rw [IntKind.wrap_i64];omega
 clear hb hr hg hcm;go_enter Tryz.func46,Tryz.ntmps46;go_wp2_with fail;go_quiet (exact qA (fK A n c l (at_:Int) B _ v (to_:Int) 0 Hg.out (Hr.out.drewN _) hnc Hcm.out));go_wp2_with fail;go_ret;exact ⟨rfl,(H.out.drewN nq).set 1 _,((Keep.refl (fun b=>b=gr) w).drewN nq).setCell (p:=⟨gr,1,none⟩) (.inl rfl) _⟩
theorem sP (gr:Nat) (A:Option Addr) (n c B at_ q k to_:Nat) (l:List UInt8) (w:World) (hb:Bk w gr 82 (aIa A n c at_)) (hr:Rd w B 1 A n (l.map bv)) (hnc:n<=c) (hcm:c<=maxLen) (hnm:n<=1099511627776) (hg:eI l (at_:Int)=(k,(q:Int),0)) (hq:q+(k+4)=to_) (ht:to_<=n):
 Calls Tryz.prog 47 #[gr] w fun e w'=>e=.returned (.slice (dP A c q 1) k (c - q))/\Bk w' gr 82 (aIa A n c to_)/\Keep (fun b=>b=gr) w w':=by
 have hnum:=nB gr A n c B at_ q k n l w hb hr hnc hcm hg oM oM;have c0:w.cell? ⟨gr,0,none⟩=some (.slice A n c):=hb.cell 0;clear hb hr hg;go_enter Tryz.func47,Tryz.ntmps47;go_wp2_with fail;refine hnum.mono ?_;clear hnum;rintro e w1 ⟨rfl,hb1,hk1⟩;have d0:w1.cell? ⟨gr,0,none⟩=some (.slice A n c):=hb1.cell 0;have d1:w1.cell? ⟨gr,1,none⟩=some (.int .i64 (q:Int)):=hb1.cell 1;have d2:w1.cell? ⟨gr,2,none⟩=some (.bool false):=hb1.cell 2;have f1:=hb1.frozen 1;obtain ⟨H1,K1⟩:=hqq2 hb1 hk1;obtain ⟨m,hm⟩:∃m,n - q=m+4:=⟨n - q - 4,by omega⟩;have n1:IntKind.i64.wrap ((n:Int) -(q:Int))=((m+4:Nat):Int):=by rw [IntKind.wrap_i64];omega
 have n2:IntKind.i64.wrap (((m+4:Nat):Int) - 4)=(m:Int):=by rw [IntKind.wrap_i64];omega
 have n3:¬((k:Int) > (m:Int)):=oM;have n4:decide ((k:Int) > (m:Int))=false:=zBy n3;have n5:¬m < k:=oM;have n6:decide (m < k)=false:=zBy n5;clear hb1 hk1 c0;go_wp2_with fail;go_quiet (fail);go_wp2_with fail;have e1:((q:Int)+((k:Int)+4))=(to_:Int):=oM;rw [e1];have H2:=(H1.out.drewN nq).set 1 (.int .i64 (to_:Int));have K2:=(K1.out.drewN nq).setCell (p:=⟨gr,1,none⟩) (.inl rfl) (.int .i64 (to_:Int));generalize (w1.drewN nq).setCell ⟨gr,1,none⟩ (.int .i64 (to_:Int))=w2 at H2 K2⊢;have g0:w2.cell? ⟨gr,0,none⟩=some (.slice A n c):=H2.cell 0;have g1:w2.cell? ⟨gr,1,none⟩=some (.int .i64 (to_:Int)):=H2.cell 1;obtain ⟨H3,K3⟩:=hqq2 H2 K2;obtain ⟨to4,ht4⟩:∃x,q+k=x:=⟨_,rfl⟩;have n7:IntKind.i64.wrap ((to_:Int) -(k:Int))=((q+4:Nat):Int):=by rw [IntKind.wrap_i64];omega
 have n8:IntKind.i64.wrap (((q+4:Nat):Int) - 4)=(q:Int):=by rw [IntKind.wrap_i64];omega
 have n9:IntKind.i64.wrap ((to_:Int) - 4)=(to4:Int):=by rw [IntKind.wrap_i64];omega
 have kr:=fun w=>qZ (P:=Tryz.prog) 26 5 1 Tryz.underlying26 (fun w=>by kernel_rfl) A n c q to4 oM oM w;have ek:to4 - q=k:=oM;rw [ek] at kr;have hql:q<=1099511627776:=oM;have htl:to_<=1099511627776:=oM;have htq:q+k+4=to_:=oM;clear H2 K2 H1 K1 d0 d1 d2 f1 hm n1 n2 n3 n4 n5 n6 ek;go_quiet (fail);go_wp2_with fail;go_ret;exact ⟨rfl,H3.out.drewN _,K3.out.drewN _⟩
theorem TabW.vb {B:Nat} {w w':World} (h:TabW w) (k:VB B w w') (hB:1 < B) (hw:1 < w.heap.size):TabW w':=
 fun j hj=>(k.2.cell (p:=⟨1,j,none⟩) hw (by show ¬(B<=1);omega)).trans (h j hj)
theorem VisF.waveC {F:Nat->Prop} {w w':World} {g:Nat} {S:Nat->Value} {n v:Int} (h:VisF F w w') (hb:Bk w g 154 (wcells S n v)) (hn:¬F g):∃v',Bk w' g 154 (wcells S n v'):=by
 rcases VisF.wave h hb hn with h1 |⟨v',h1⟩;exact ⟨v,h1⟩;rw [cO] at h1;exact ⟨v',h1⟩
end
section
theorem aGs {t:List UInt8} {rs:List Nat} (h:IsSuf (aG t) rs) {r:Nat} (hr:rs[r]?=some 0):(aE (aG t) rs)[r]?=some 0:=by
 unfold aE;rw [zAf,hr];obtain ⟨e1,e2,e3⟩:=eF t;show some (bL (aG t) 0)=some 0;rw [bQ oM,e1];have:t.length+1 - 1=t.length:=oM;rw [this,e2]
theorem aEO {t:List UInt8} {rs:List Nat} (h:IsSuf (aG t) rs):(aE (aG t) rs).count 0=1:=by
 obtain ⟨e1,e2,e3⟩:=eF t;unfold aE;rw [List.count_eq_countP,List.countP_map,h.count,e1,gN (m:=t.length) _ (fun p=>(aG t).getD p 0==0)]
 · rw [List.range_succ,List.countP_append];have h0:(List.range t.length).countP (fun p=>(aG t).getD p 0==0)=0:=List.countP_eq_zero.2 fun p hp hz=>by have:=e3 p (zCj.1 hp);rw [zCq] at hz;omega
   rw [h0];simp only [List.countP_singleton,e2];rfl
 · simp only [Function.comp];rw [bQ oM,e1];congr 2
 · intro p hp;simp only [Function.comp];rw [bE oM]
theorem aGo {L:List Nat} {k x:Nat} (hx:L[k]?=some x) (s:Nat):cJ L s (k+1)=if s=x then cJ L s k+1 else cJ L s k:=by
 unfold cJ;rw [zAv,hx,zCc];by_cases e:s=x;subst e;rw [zBx rfl];simp;omega
 · rw [zBw e];have:([x]:List Nat).count s=0:=(by rw [List.count_eq_zero];intro h;simp at h;exact e h);show _+((L.take k).count s+ [x].count s)=_;rw [this,zBq]
end
section
open Go.RowKit
theorem aFe (A A2:Option Addr) (n c c2 B:Nat) (L:List Nat) (w:World) (hr:Rd w B 1 A n (L.map sv)) (hr2:Rd w B 1 A2 n (L.map sv)) (hB:B<=w.heap.size) (hn:n<=1099511627776):
 Calls Tryz.prog 163 #[.slice A n c,.slice A2 n c2] w fun e w'=>e=.returned (.bool true)/\Below w.heap.size w w':=by
 have hbl:L.length=n:=by have:=hr.1;simpa using this
 obtain ⟨H,H2⟩:=hqq2 hr hr2;clear hr hr2;go_enter Tryz.func163,Tryz.ntmps163;go_wp2_with fail;go_loopw [13] (fun i wr=>∃k:Nat,k<=n/\i=.int .i64 (k:Int)/\Below w.heap.size w wr) (fun i _=>n -(intOf i).toNat)
 case atStart=>exact ⟨0,by omega,rfl,Below.refl _ _⟩
 case round=>
  obtain ⟨k,hk,rfl,hb⟩:=hrel;by_cases hlt:k < n
  · obtain ⟨b1,o1,u,rfl,hb1,hu,hc1⟩:=(H.out.below (hb.mono hB)).get hlt;obtain ⟨b2,o2,u2,rfl,hb2,hu2,hc2⟩:=(H2.out.below (hb.mono hB)).get hlt;obtain ⟨x,hx⟩:∃x,L[k]?=some x:=⟨_,zAa oM⟩;rw [zAf,hx] at hu hu2;injection hu with hu;injection hu2 with hu2;subst hu hu2;unfold sv at hc1 hc2;go_wp2_with fail;go_quiet (fail);go_wp2_with fail;go_roundw
    case rel=>exact ⟨k+1,by omega,by go_num,⟨hb.os,hb.tape,hb.output,hb.size,hb.block⟩⟩
    case measure=>simp [intOf];omega
  · have hks:k=n:=oM;subst hks;go_wp2_with fail;go_ret;exact ⟨rfl,hb⟩
theorem yZ (A A2:Option Addr) (n c c2 B:Nat) (L:List Nat) (w:World) (hr:Rd w B 1 A n (L.map sv)) (hr2:Rd w B 1 A2 n (L.map sv)) (hB:B<=w.heap.size) (hn:n<=1099511627776):
 Calls Tryz.prog 109 #[.slice A n c,.slice A2 n c2] w fun e w'=>e=.returned (.bool true)/\Below w.heap.size w w':=by
 have he:=aFe A A2 n c c2 B L w hr hr2 hB hn;clear hr hr2;go_enter Tryz.func109,Tryz.ntmps109;go_wp2_with fail;refine he.mono ?_;rintro e w1 ⟨rfl,hb⟩;go_wp2_with fail;go_ret;exact ⟨rfl,hb⟩
theorem zK (A A2:Option Addr) (n n2 c c2 B:Nat) (l l2:List UInt8) (w:World) (hr:Rd w B 1 A n (l.map bv)) (hr2:Rd w B 1 A2 n2 (l2.map bv)):
 Calls Tryz.prog 50 #[.slice A n c,.slice A2 n2 c2] w fun e w'=>e=.returned (.bool (l==l2))/\Below w.heap.size w w':=by
 have s1:(convert 26 9 (.slice A n c)).run Tryz.prog w=.ok (.string ⟨l.toArray⟩) w:=gL (P:=Tryz.prog) 26 9 5 Tryz.underlying26 Tryz.underlying5 Tryz.underlying9 hr;have s2:(convert 26 9 (.slice A2 n2 c2)).run Tryz.prog w=.ok (.string ⟨l2.toArray⟩) w:=gL (P:=Tryz.prog) 26 9 5 Tryz.underlying26 Tryz.underlying5 Tryz.underlying9 hr2;obtain ⟨x1,hx1⟩:∃x:ByteArray,⟨l.toArray⟩=x:=⟨_,rfl⟩;obtain ⟨x2,hx2⟩:∃x:ByteArray,⟨l2.toArray⟩=x:=⟨_,rfl⟩;rw [hx1] at s1;rw [hx2] at s2;have e1:x1.toList=l:=by rw [<-hx1,ByteArray.toList_eq]
 have e2:x2.toList=l2:=by rw [<-hx2,ByteArray.toList_eq]
 clear hx1 hx2 hr hr2;go_enter Tryz.func50,Tryz.ntmps50;go_wp2_with fail;go_ret;refine ⟨?_,Below.refl _ _⟩;rw [<-e1,<-e2];rfl
end
section
open Go.RowKit Go.Shelf
attribute [local go_sem] Oper.semAt_some
section
variable {P : Program} {ops : Array Oper} {md : Region.Mode} {Q : Exit -> Act -> World -> Prop} {l n : Nat}
end
def KpB (b1 b2:Nat) (W W':World):Prop:=∀p:Addr,(p.block=b1∨p.block=b2)->W'.cell? p=W.cell? p
theorem KpB.trans {b1 b2:Nat} {A B C:World} (h:KpB b1 b2 A B) (k:KpB b1 b2 B C):KpB b1 b2 A C:=fun p hp=>(k p hp).trans (h p hp)
attribute [local go_sem] Oper.semAt_some
def nN (L:List Nat) (x:Nat×Nat) (c:UInt8):Nat×Nat:=(cJ L (c.toNat+1) x.1,cJ L (c.toNat+1) x.2)
structure FInv (w0:World) (Bw gl gb glo gs b3:Nat) (sl:Value) (L:List Nat) (pre:List (Nat×UInt8)) (W:World):Prop where
 lo:Bk W glo 3 #[.int .i64 ((((pre.map (·.2)).foldl (nN L) (0,L.length)).1:Nat):Int)]
 hi:Bk W (glo+1) 3 #[.int .i64 ((((pre.map (·.2)).foldl (nN L) (0,L.length)).2:Nat):Int)]
 lv:LvW W Bw gl L
 box:Bk W gb 23 #[gl]
 bs:Bk W gs 26 #[sl]
 dat:∃t cs,Bk W b3 t cs/\t∈ [5,26]
 vis:VB Bw w0 W
theorem FInv.own {w0:World} {Bw gl gb glo gs b3 B:Nat} {sl:Value} {L:List Nat} (hB:w0.heap.size<=B):OwnFrom B (fun pre W=>FInv w0 Bw gl gb glo gs b3 sl L pre W):=by
 intro s W W' row h hg hr;have hbk:∀b t cs,Bk W b t cs->Bk W' b t cs:=by intro b t cs hb;refine (hg.block b hb.lt fun e=>?_).trans hb;obtain ⟨_,o,ho,hc⟩:=hr b e.symm;unfold Bk at hb;rw [hb] at ho;injection ho with ho;subst ho;cases hc
 obtain ⟨t,cs,h6,h7⟩:=h.dat;refine ⟨hbk _ _ _ h.lo,hbk _ _ _ h.hi,h.lv.same hbk,hbk _ _ _ h.box,hbk _ _ _ h.bs,⟨t,cs,hbk _ _ _ h6,h7⟩,⟨hg.os.trans h.vis.1.os,hg.tape.trans h.vis.1.tape,hg.output.trans h.vis.1.output,zAk h.vis.1.size hg.size,fun b hb hn=>?_⟩,⟨hg.os.trans h.vis.1.os,hg.tape.trans h.vis.1.tape,hg.output.trans h.vis.1.output,zAk h.vis.1.size hg.size,fun b hb hn=>(hg.block b (zAl hb h.vis.1.size) fun e=>?_).trans (h.vis.2.block b hb hn)⟩⟩;rcases h.vis.1.block b hb hn with e |⟨cs,v,e,e'⟩|⟨cs,v,e,e'⟩;refine .inl ((hg.block b (zAl hb h.vis.1.size) fun e=>?_).trans e);have:=(hr b e.symm).1;omega;exact .inr (.inl ⟨cs,v,e,hbk _ _ _ e'⟩);exact .inr (.inr ⟨cs,v,e,hbk _ _ _ e'⟩);have:=(hr b e.symm).1;omega
end
section
open Go.RowKit
theorem pC (l:List UInt8):(⟨l.toArray⟩:ByteArray).size=l.length:=by simp [ByteArray.size]
theorem tH {t:List UInt8} {a:Nat} {c:UInt8} (h:t[a]?=some c):∀W,(Instr.index 9 (.string ⟨t.toArray⟩) (.int .i64 (a:Int))).run Tryz.prog W=.ok (.int .u8 (c.toNat:Int)) W:=fun W=>by
 obtain ⟨h1,h2⟩:=zAc.1 h;rw [aCo (P:=Tryz.prog) 9 Tryz.underlying9 ⟨t.toArray⟩ a (by rw [pC];exact h1) W];congr 4
end
end Go.Proofs.YthldmddkfbijhaaGreatDoor
