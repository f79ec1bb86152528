/- Lemmas of the walk. Conditions: each its own. -/
import Derived.Test.YthldmddkfbijhaaGreatDoorPsr2
import Derived.Test.YthldmddkfbijhaaGreatDoorProg
set_option linter.all false
set_option maxRecDepth 100000
set_option maxHeartbeats 1000000
namespace Go.Proofs.YthldmddkfbijhaaGreatDoor
section
open Go.RowKit
theorem iF {a b:Bool} (h:a=b):Value.bool a=Value.bool b:=by rw [h]
section
variable {w w' : World} {B B' sz n : Nat} {A : Option Addr} {xs : List Value}
end
section
variable {P : Program} (t e : TypeId) (sz : Nat) (ht : P.underlying t = some (.slice e)) (hs : ∀ w, (sizeOf e).run P w = .ok sz w)
include ht hs
end
section
variable {w w' : World} {g : Nat} {t : TypeId} {cs : Array Value}
end
section
variable {F G : Nat -> Prop} {w w1 w' : World}
end
section
variable {P : Program} (w : World)
end
theorem aED (T D:List UInt8) (k:Nat) (h:D.isPrefixOf (T.drop k)=true):iB T D (k+1)=iB T D k++ [k]:=by
 simp [iB,List.range_succ,List.filter_append,h]
theorem iN:(Tryz.prog.info? 5).map (fun i=>(i.zero,i.size,i.bytes))=some (some (.int .u8 0),1,1):=by kernel_rfl
theorem aCM:(Tryz.prog.info? 3).map (fun i=>(i.zero,i.size,i.bytes))=some (some (.int .i64 0),1,8):=by kernel_rfl
theorem aHq (A:Option Addr) (n c B:Nat) (l:List UInt8) (w:World) (hr:Rd w B 1 A n (l.map bv)) (hB:B<=w.heap.size) (hn:n<=1099511627776):
 Calls Tryz.prog 188 #[.slice A n c] w fun e w'=>∃A' c',e=.returned (.slice A' n c')/\Made w' w.heap.size 5 1 A' n c' (l.map bv)/\Below w.heap.size w w':=by
 obtain ⟨i0,hi0,hz0,hz1,hz2⟩:=info_parts iN;have q22:∀(w:World) (a:Option Addr) (n c:Nat),(binOp .eql 26 (.slice a n c) (.slice none 0 0)).run Tryz.prog w=.ok (.bool a.isNone) w:=fun w a n c=>Lib.run_eql_slice_nil w _ _ a n c _ _ Tryz.underlying26;rcases A with _ | a
 · have hn0:n=0:=by
    rcases zBa n with h | h;exact h
    · obtain ⟨_,_,h,_⟩:=hr.2 h;cases h
   subst hn0;have hl:l= []:=(by have:=hr.1;simp only [zBc,Nat.zero_mul] at this;exact zBk this);subst hl;go_enter Tryz.func188,Tryz.ntmps188;go_wp2;go_ret;exact ⟨none,0,rfl,⟨World.ownsRow_nil _ _ _ _,Rd.nil _ _ _ _,zAs _,zAp _⟩,Below.refl _ _⟩
 · have Hr:=lhd hr;clear hr;go_enter Tryz.func188,Tryz.ntmps188;go_wp2_with (at_builtin;refine aX _ rfl (.tmp 5) (.tmp 6) _ rfl w.heap.size 5 i0 (.int .u8 0) 1 1 Tryz.underlying26 hi0 hz0 hz1 hz2 rfl dC (.slice (some ⟨w.heap.size,0,none⟩) 0 0) 0 [] rfl (jW w 5 1) w.heap.size (some a) n c _ rfl ((Hr.out.mono hB).alloc nL _) (iM _) (by unfold maxLen;omega) oM (by simp) ?_;intro v5 w5 hown5 hg5 hat5);have hB5:=aZ ((Below.refl w.heap.size w).alloc nL _) (jW w 5 1) hg5 (by simp);rw [zBi,List.nil_append] at hown5;obtain ⟨A',c',rfl,hm⟩:=aS hown5;go_wp2;go_ret;exact ⟨A',c',rfl,hm,hB5⟩
theorem aCN (n:Nat) (w:World) (hn:n<=1099511627776):
 Calls Tryz.prog 102 #[.slice none 0 0,(n:Int)] w fun e w'=>∃v,e=.returned v/\w'.ownsRow w.heap.size 5 1 v 0 []/\Below w.heap.size w w':=by
 obtain ⟨i0,hi0,hz0,hz1,hz2⟩:=info_parts iN;rcases zBa n with h0 | h0
 · subst h0;go_enter Tryz.func102,Tryz.ntmps102;go_wp2;go_ret;exact ⟨_,rfl,World.ownsRow_nil _ _ _ _,Below.refl _ _⟩
 · have hrun:=Lib.run_append_nil_zeros (P:=Tryz.prog) w 26 3 26 5 i0 (.int .u8 0) .i64 .i64 Tryz.underlying26 Tryz.underlying3 hi0 hz0 n h0 oM oM (by rw [hz2];omega);have hge:=grownCap_ge w n 0 5;have hle:=grownCap_le_maxLen w n 0 5 (by unfold maxLen;omega);generalize grownCap w n 0 5=cp at*
   have hsz:(Builtin.zeroCells (Value.int .u8 0).cells n++Builtin.zeroCells (Value.int .u8 0).cells (cp - n)).size=cp*1:=(by simp [Builtin.zeroCells,Value.cells];omega);obtain ⟨Hsz,Hrun⟩:=hqq2 hsz hrun;clear hsz hrun;have hdec:¬((n:Int) < 0):=oM;go_enter Tryz.func102,Tryz.ntmps102;go_wp2_with (at_builtin;refine Lib.wpList_append_run _ rfl (.tmp 20) (.tmp 21) _ _ rfl _ _ rfl rfl _ _ Hrun.out ?_);go_ret;exact ⟨_,rfl,World.ownsRow_made _ _ _ nL hle Hsz.out,bR.drew.alloc nL _⟩
structure MoSl where
 A:Option Addr
 n:Nat
 c:Nat
 l:List UInt8
def aIv (s:MoSl):Value:=.slice s.A s.n s.c
def cW (ss:List MoSl):List UInt8:=ss.flatMap (·.l)
theorem rK (ss:List MoSl) (k:Nat) (s:MoSl) (h:ss[k]?=some s):cW (ss.take (k+1))=cW (ss.take k)++s.l:=by
 rw [zAv,h];simp [cW]
theorem uZ (ss:List MoSl) (k:Nat):(cW (ss.take k)).length<=(cW ss).length:=by
 have:cW ss=cW (ss.take k)++cW (ss.drop k):=by unfold cW;rw [<-List.flatMap_append,zAu]
 rw [this,zAi];omega
theorem zR (A0:Option Addr) (m0 c0 B:Nat) (ss:List MoSl) (T:List UInt8) (N:Nat) (hT:cW ss=T) (hN:T.length=N) (w:World) (hr0:Rd w B 1 A0 m0 (ss.map aIv)) (hss:∀s∈ss,Rd w B 1 s.A s.n (s.l.map bv)) (hB:B<=w.heap.size) (hm:m0<=1099511627776) (hn:N<=1099511627776):
 Calls Tryz.prog 41 #[.slice A0 m0 c0] w fun e w'=>∃A' c',e=.returned (.slice A' N c')/\Made w' w.heap.size 5 1 A' N c' (T.map bv)/\Below w.heap.size w w':=by
 obtain ⟨i0,hi0,hz0,hz1,hz2⟩:=info_parts iN;have hlen:ss.length=m0:=by simpa using hr0.1
 have hpart:∀k,(cW (ss.take k)).length<=1099511627776:=fun k=>by have:=uZ ss k;rw [hT] at this;omega
 have hrow:∀k s,ss[k]?=some s->s.l.length=s.n/\(cW (ss.take (k+1))).length=(cW (ss.take k)).length+s.n:=fun k s hs=>by
  have h1:=(hss s (zAd hs)).1;have h2:s.l.length=s.n:=by simpa using h1
  rw [rK ss k s hs,zAi,h2];exact ⟨rfl,rfl⟩
 obtain ⟨Hlen,Hpart,Hrow,Hr0,Hss,HT,HN⟩:=hqq7 hlen hpart hrow (hr0.mono hB) (fun s hs=>(hss s hs).mono hB) hT hN;clear hlen hpart hrow hr0 hss hT hN;go_enter Tryz.func41,Tryz.ntmps41;go_wp2;go_loopw [3,11] (fun v i wr=>∃k:Nat,k<=m0/\i=.int .i64 k/\v=.int .i64 ((cW (ss.take k)).length:Int)/\w=wr) (fun _ i _=>m0 -(intOf i).toNat)
 case atStart=>exact ⟨0,zAp _,rfl,by simp [cW],rfl⟩
 case round=>
  obtain ⟨k,hk,rfl,rfl,rfl⟩:=hrel;by_cases hlt:k < m0
  · obtain ⟨s,hs⟩:∃s,ss[k]?=some s:=⟨ss[k]'(by have:=Hlen.out;omega),zAa (by have:=Hlen.out;omega)⟩;obtain ⟨b,off,u,rfl,hbl,hu,hc⟩:=Hr0.out.get hlt;rw [zAf,hs] at hu;simp at hu;subst hu;unfold aIv at hc;obtain ⟨h1,h2⟩:=Hrow.out k s hs;have h3:=Hpart.out (k+1);generalize hq:(cW (ss.take k)).length=q at*
    have Hnext:=lhd h2;rw [h2] at h3;clear h1 h2 hs hq;have hneg:¬((q:Int)+(s.n:Int) < 0):=oM;go_wp2;go_roundw
    case rel=>exact ⟨k+1,by omega,by go_num,by rw [Hnext.out];go_num,trivial⟩
    case measure=>simp [intOf];omega
  · have hkm:k=m0:=oM;have hge:m0<=k:=oM;have htk:ss.take k=ss:=zAg (by have:=Hlen.out;omega);rw [htk,HT.out,HN.out];clear hkm htk;go_wp2_with fail;refine (aCN N _ hn).mono ?_;rintro e w1 ⟨v1,rfl,hown1,hb1⟩;go_wp2_with fail;go_loopw [6,27] (fun v i wr=>∃k:Nat,k<=m0/\i=.int .i64 k/\wr.ownsRow w.heap.size 5 1 v (cW (ss.take k)).length ((cW (ss.take k)).map bv)/\Below w.heap.size w wr) (fun _ i _=>m0 -(intOf i).toNat)
    case atStart=>exact ⟨0,zAp _,rfl,hown1,hb1⟩
    case round=>
        obtain ⟨k,hk,rfl,hown,hb⟩:=hrel;have hsz:=hb.size;by_cases hlt:k < m0
        · obtain ⟨s,hs⟩:∃s,ss[k]?=some s:=⟨ss[k]'(by have:=Hlen.out;omega),zAa (by have:=Hlen.out;omega)⟩;obtain ⟨b,off,u,rfl,hbl,hu,hc⟩:=(Hr0.out.below hb).get hlt;rw [zAf,hs] at hu;simp at hu;subst hu;unfold aIv at hc;have hrs:=lhd ((Hss.out s (zAd hs)).below hb);obtain ⟨h1,h2⟩:=Hrow.out k s hs;have h3:=Hpart.out (k+1);obtain ⟨hsn,Hnext⟩:=hqq2 (rK ss k s hs) h2;generalize hq:(cW (ss.take k)).length=q at*
          rw [h2] at h3;have Hown:=lhd hown;clear h1 h2 hs hown;go_wp2_with (at_builtin;refine aX _ rfl (.tmp 31) (.tmp 32) _ rfl w.heap.size 5 i0 (.int .u8 0) 1 1 Tryz.underlying26 hi0 hz0 hz1 hz2 rfl dC _ q _ rfl Hown.out w.heap.size s.A s.n s.c _ rfl hrs.out (iM _) (by unfold maxLen;omega) oM hsz ?_;intro v5 w5 hown5 hg5 hat5);have hB5:=aZ hb Hown.out hg5 hsz;go_roundw
          case rel=>refine ⟨k+1,by omega,by go_num,?_,hB5⟩;rw [Hnext.out,hsn.out,zAz];exact hown5
          case measure=>simp [intOf];omega
        · have hkm:k=m0:=oM;have hge:m0<=k:=oM;have htk:ss.take k=ss:=zAg (by have:=Hlen.out;omega);rw [htk,HT.out,HN.out] at hown;obtain ⟨A',c',rfl,hm'⟩:=aS hown;clear hkm htk hown;go_wp2;go_ret;exact ⟨A',c',rfl,hm',hb⟩
section
variable {w W : World}
theorem gZ {s:Nat} {z0 z1 z2 z3 v0 v1 v2 v3:Value} (h:Bk W s 50 #[z0,z1,z2,z3]):
 Bk ((((W.setCell ⟨s,0,none⟩ v0).setCell ⟨s,1,none⟩ v1).setCell ⟨s,2,none⟩ v2).setCell ⟨s,3,none⟩ v3) s 50 #[v0,v1,v2,v3]:=by
 have:=(((h.set 0 v0).set 1 v1).set 2 v2).set 3 v3;simpa using this
theorem lU {s:Nat} {v0 v1 v2 v3:Value} (h:w.heap.size<=s):Below w.heap.size w W->Below w.heap.size w ((((W.setCell ⟨s,0,none⟩ v0).setCell ⟨s,1,none⟩ v1).setCell ⟨s,2,none⟩ v2).setCell ⟨s,3,none⟩ v3):=
 fun hb=>(((hb.setCell (p:=⟨s,0,none⟩) h v0).setCell (p:=⟨s,1,none⟩) h v1).setCell (p:=⟨s,2,none⟩) h v2).setCell (p:=⟨s,3,none⟩) h v3
theorem xO {F:Nat->Prop} {s:Nat} {v0 v1 v2 v3:Value} (h:w.heap.size<=s):Keep F w W->Keep F w ((((W.setCell ⟨s,0,none⟩ v0).setCell ⟨s,1,none⟩ v1).setCell ⟨s,2,none⟩ v2).setCell ⟨s,3,none⟩ v3):=
 fun hb=>(((hb.setCell (p:=⟨s,0,none⟩) (.inr h) v0).setCell (p:=⟨s,1,none⟩) (.inr h) v1).setCell (p:=⟨s,2,none⟩) (.inr h) v2).setCell (p:=⟨s,3,none⟩) (.inr h) v3
theorem qM {s:Nat} {v0 v1 v2 v3:Value}:Keep (fun b=>b=s) W ((((W.setCell ⟨s,0,none⟩ v0).setCell ⟨s,1,none⟩ v1).setCell ⟨s,2,none⟩ v2).setCell ⟨s,3,none⟩ v3):=
 ((((Keep.refl (fun b=>b=s) W).setCell (p:=⟨s,0,none⟩) (.inl rfl) v0).setCell (p:=⟨s,1,none⟩) (.inl rfl) v1).setCell (p:=⟨s,2,none⟩) (.inl rfl) v2).setCell (p:=⟨s,3,none⟩) (.inl rfl) v3
end
theorem aGq (B:Nat) (e:TypeId) (sz n:Nat) (xs:List Value):Stb (kH B e sz n xs):=fun _ _ _ ⟨A,c,h1,h2⟩ k=>⟨A,c,h1,h2.below k⟩
end
section
structure Sp where
 kind:Int
 p:Int
 k:Int
 D:List UInt8
def spK (k:UInt8):Int:=((k.toNat % 8+1:Nat):Int)
def spP (k x:UInt8):Int:=if 248<=k.toNat then (x.toNat:Int) - 128 else ((x.toNat % 32:Nat):Int)
def spN (k y:UInt8):Int:=if 248<=k.toNat then (y.toNat:Int) - 128 else ((y.toNat % 8:Nat):Int)
def iO (k:UInt8):Bool:=decide (k.toNat % 8=0)||decide (k.toNat % 8=2)||decide (k.toNat % 8=5)||decide (k.toNat % 8=6)
def cV (x:UInt8):UInt8:=97+x % 3
def qE (k x y:UInt8):List UInt8:=List.replicate (y.toNat % 4) (cV x)++if 128<=k.toNat then [98] else []
def spD (k x y:UInt8):List UInt8:=if iO k=true then qE k x y else []
def aA3 (k x y:UInt8):Sp:=⟨spK k,spP k x,spN k y,spD k x y⟩
def aD3 (l:List UInt8) (j:Nat):Sp:=aA3 (l.getD (3*j) 0) (l.getD (3*j+1) 0) (l.getD (3*j+2) 0)
theorem eH (x:UInt8):(cV x).toNat=97+x.toNat % 3:=by
 unfold cV;rw [UInt8.toNat_add,UInt8.toNat_mod];have:(3:UInt8).toNat=3:=rfl;have h97:(97:UInt8).toNat=97:=rfl;rw [this,h97];have:=Nat.mod_lt x.toNat (by decide:0 < 3);omega
end
end Go.Proofs.YthldmddkfbijhaaGreatDoor
