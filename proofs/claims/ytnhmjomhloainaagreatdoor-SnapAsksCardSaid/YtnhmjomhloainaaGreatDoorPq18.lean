/- Parts of the walk, joined from several texts. Conditions: what each lemma says. -/
import Derived.Test.YtnhmjomhloainaaGreatDoorPq17
import Derived.Laws.Rows
import Derived.Laws.Tables
import Derived.Laws.CopyOwn
import Derived.Deep.WholeRow
set_option linter.all false
set_option maxRecDepth 100000
set_option maxHeartbeats 2000000
namespace Go.Proofs.YtnhmjomhloainaaGreatDoor
open Go.RowKit
noncomputable def ltP (l:List Nat) (p x:Nat):Bool:=@decide (sufLt l x p) (Classical.propDecidable _)
theorem pQ (l:List Nat) (p x:Nat):ltP l p x=true↔sufLt l x p:=by
 unfold ltP;exact @decide_eq_true_iff _ (Classical.propDecidable _)
theorem yV {l rs:List Nat} (h:IsSuf l rs) (i:Nat) (hi:i < rs.length):rs.countP (ltP l rs[i])=i:=by
 have h1:(rs.take i).countP (ltP l rs[i])=i:=by rw [List.countP_eq_length.2 fun x hx=>?_];rw [zAj];omega;obtain ⟨k,hk,rfl⟩:=zBo.1 hx;rw [zAj] at hk;rw [List.getElem_take,pQ];exact zAr.1 h.sorted k i oM hi oM
 have h2:(rs.drop i).countP (ltP l rs[i])=0:=List.countP_eq_zero.2 fun x hx hp=>by obtain ⟨k,hk,rfl⟩:=zBo.1 hx;rw [zAw] at hk;rw [List.getElem_drop,pQ] at hp;rcases zBa k with h0 | h0;subst h0;exact sufLt.asymm hp hp;exact sufLt.asymm hp (zAr.1 h.sorted i (i+k) hi oM oM)
 have e:rs.countP (ltP l rs[i])=(rs.take i++rs.drop i).countP (ltP l rs[i]):=congrArg (List.countP _) (zAu i rs).symm;rw [e,List.countP_append];omega
theorem aAY {l rs:List Nat} (h:IsSuf l rs) (P:Nat->Bool) (hd:∀x y,sufLt l x y->P y=true->P x=true) (s:Nat):((aE l rs).take (rs.countP P)).count s=(List.range l.length).countP (fun p=>decide (bT l p=s)&&P p):=by
 rw [aE,<-List.map_take,rA h.sorted hd,<-h.count,List.count_eq_countP,List.countP_map,List.countP_filter];refine List.countP_congr fun p _=>?_;simp [Function.comp,and_comm]
theorem lf {l rs:List Nat} {m:Nat} (h:IsSuf l rs) (he:EndOk l m) {i j p:Nat} (hi:i < rs.length) (hj:j < rs.length) (hip:rs[i]=p+1) (hjp:rs[j]=p):cE (aE l rs) (l.getD p 0) i=j:=by
 have hlen:=he.len;have hpm:p < m:=by have:=h.lt (zBj hi);omega
 have hs:=he.pos p hpm;obtain ⟨s,hsd⟩:=eqx (l.getD p 0);rw [hsd] at hs⊢;have ci:=yV h i hi;have cj:=yV h j hj;rw [hip] at ci;rw [hjp] at cj;have htk:=aAY h (ltP l (p+1)) (fun x y hxy hy=>by rw [pQ] at hy⊢;exact hxy.trans hy) s;rw [ci] at htk;rw [h.count] at cj;unfold cE;rw [htk];have e1:(aE l rs).countP (fun x=>decide (x < s))=(List.range (m+1)).countP (fun p=>decide (l.getD p 0 < s)):=by
  rw [aE,List.countP_map,h.count,hlen];refine fR _ _ ?_ fun p hp=>?_
  · show decide (bT l 0 < s)=_;rw [bW oM,hlen,zBb]
  · show decide (bT l (p+1) < s)=_;rw [bE oM]
 have e2:(List.range l.length).countP (fun x=>decide (bT l x=s)&&ltP l (p+1) x)=(List.range (m+1)).countP (fun x=>decide (l.getD x 0=s)&&ltP l (p+1) (x+1)):=by
  rw [hlen];refine fR _ _ ?_ fun x hx=>?_;show (decide (bT l 0=s)&&_)=(decide (l.getD m 0=s)&&_);rw [bW oM,hlen,zBb,he.last];have:decide (0=s)=false:=(by simp;omega);rw [this];rfl
  · show (decide (bT l (x+1)=s)&&_)=_;rw [bE oM]
 rw [e1,e2,<-rM,<-cj,hlen];refine List.countP_congr fun x hx=>?_;have hx':x < m+1:=(by simpa using hx);rw [pQ,gM,eM (by omega:x < l.length),eM (by omega:p < l.length),hsd];simp only [Bool.or_eq_true,zBd,zCa,pQ];constructor;rintro (h1 |⟨h1,h2⟩);exact .inl oM;exact .inr ⟨by omega,h2⟩;rintro (h1 |⟨h1,h2⟩);exact .inl oM;exact .inr ⟨by omega,h2⟩;intro x _;simp only [zBd,zCa];rintro ⟨h1,h2,_⟩;omega
theorem pT {l rs:List Nat} {m:Nat} (he:EndOk l m) {i p:Nat} (hi:i < rs.length) (hip:rs[i]=p+1) (hp:p < m):(aE l rs)[i]'(by rw [bJ];exact hi)=l.getD p 0:=by
 have hlen:=he.len;unfold aE;rw [List.getElem_map,hip,bE oM]
theorem IsSuf.row {l rs:List Nat} (h:IsSuf l rs) {p:Nat} (hp:p < l.length):∃j,∃hj:j < rs.length,rs[j]=p:=by
 obtain ⟨j,hj,e⟩:=zBo.1 (h.mem hp);exact ⟨j,hj,e⟩
theorem aAo (L:List Nat) (k lv:Nat) (hk:k < L.length):(aK L lv (bB L[k] lv))[fH L k L[k] lv]?=some (fS L[k] lv):=by
 unfold aK fH;have e:L=L.take k++L[k]::L.drop (k+1):=by rw [<-zAx hk,zAu]
 generalize hs:L[k]=s at e⊢;generalize L.take k=A at e⊢;rw [e,List.filter_append,List.filter_cons,zBx (by simp),zAz,List.countP_eq_length_filter,zAo (by simp)];simp
theorem aD3 (v:Int) (h0:0<=v) (h1:v<=255):∃c:UInt8,(c.toNat:Int)=v:=⟨UInt8.ofNat v.toNat,by
 rw [UInt8.toNat_ofNat'];omega⟩
def aH6 (few:Bool) (T:List UInt8):Prop:=few=true->∀c∈T,97<=c.toNat/\c.toNat<=99
def aGW (w:World) (most:Nat) (few:Bool) (e:Ending) (w':World):Prop:=∃T A' c',T.length<=most/\aH6 few T/\e=.returned (.slice A' T.length c')/\Made w' w.heap.size 5 1 A' T.length c' (T.map bv)/\Below w.heap.size w w'
theorem wH (A:Option Addr) (n c B:Nat) (l:List Int) (most:Nat) (few:Bool) (w:World) (hr:Rd w B 1 A n (l.map iv)) (hB:B<=w.heap.size) (hn:n<=maxLen) (hm:most<=1000):
 Calls Tryz.prog 15 #[.slice A n c,.int .i64 (most:Int),.bool few] w (aGW w most few):=by
 obtain ⟨i0,hi0,hz0,hz1,hz2⟩:=info_parts oX;unfold maxLen at hn;have Hr:=lhd (hr.mono hB);have hll:l.length=n:=by simpa using hr.1
 have Hll:=lhd hll;clear hr hll;go_enter Tryz.func15,Tryz.ntmps15;go_wp2_with fail;go_loopw [7,8] (fun v i wr=>∃(k:Nat) (T:List UInt8),k<=n/\k<=most/\T.length=k/\aH6 few T/\i=.int .i64 k/\wr.ownsRow w.heap.size 5 1 v k (T.map bv)/\Below w.heap.size w wr) (fun _ i _=>n -(intOf i).toNat)
 case atStart=>exact ⟨0, [],by omega,by omega,rfl,fun _ c hc=>(by cases hc),rfl,World.ownsRow_nil _ _ _ _,Below.refl _ _⟩
 case round=>
  obtain ⟨k,T,hk,hkm,hT,hfew,rfl,hown,hb⟩:=hrel;have hsz:=hb.size;by_cases hlt:k < n/\k < most
  · obtain ⟨hlt1,hlt2⟩:=hlt;obtain ⟨b,off,u,rfl,hbl,hu,hc⟩:=(Hr.out.below hb).get hlt1;rw [zAf] at hu;obtain ⟨z,hz,rfl⟩:=Option.map_eq_some_iff.1 hu;unfold iv at hc;obtain ⟨Hown,Hb,Hfew,HT⟩:=hqq4 hown hb hfew hT;clear hown hb hfew hT hu hz hbl;have hkI:(k:Int) < (n:Int):=oM;have hmI:(k:Int) < (most:Int):=oM;cases few with
    | true=>
      obtain ⟨q,hq,hq3⟩:=fM z 3 oM;obtain ⟨ch,hch⟩:=aD3 (97+(q:Int)) oM oM;have e1:IntKind.u64.wrap (97+(q:Int))=97+(q:Int):=(by rw [IntKind.wrap_u64];omega);have e2:IntKind.u8.wrap (97+(q:Int))=97+(q:Int):=(by rw [IntKind.wrap_u8];omega);have Hch:=lhd hch;clear hch;go_wp2_with (at_builtin;refine aY _ rfl (.tmp 21) (.tmp 30) _ rfl w.heap.size 5 i0 (.int .u8 0) 1 1 Tryz.underlying23 hi0 hz0 hz1 hz2 rfl dC _ k _ rfl Hown.out rfl rfl (by simp [Value.oneCell']) (by unfold maxLen;omega) oM hsz ?_;intro v2 w2 hown2 hg2 hs2 hat2);have hb3:=aW Hb.out Hown.out hg2 hsz;go_roundw
      case rel=>refine ⟨k+1,T++ [ch],by omega,by omega,by simp [HT.out],fun h c hc=>?_,by go_num,?_,hb3⟩;rcases zCo.1 hc with hc | hc;exact Hfew.out h c hc;simp at hc;subst hc;have:=Hch.out;omega;rw [zAz];have e3:bv ch=.int .u8 (97+(q:Int)):=(by unfold bv;rw [Hch.out]);rw [List.map_cons,List.map_nil,e3];exact hown2
      case measure=>simp [intOf];omega
    | false=>
      have hwb:0<=IntKind.u8.wrap z/\IntKind.u8.wrap z<=255:=(by rw [IntKind.wrap_u8];omega);obtain ⟨ch,hch⟩:=aD3 (IntKind.u8.wrap z) hwb.1 hwb.2;have Hch:=lhd hch;clear hch hwb;go_wp2_with (at_builtin;refine aY _ rfl (.tmp 32) (.tmp 38) _ rfl w.heap.size 5 i0 (.int .u8 0) 1 1 Tryz.underlying23 hi0 hz0 hz1 hz2 rfl dC _ k _ rfl Hown.out rfl rfl (by simp [Value.oneCell']) (by unfold maxLen;omega) oM hsz ?_;intro v2 w2 hown2 hg2 hs2 hat2);have hb3:=aW Hb.out Hown.out hg2 hsz;go_roundw
      case rel=>refine ⟨k+1,T++ [ch],by omega,by omega,by simp [HT.out],fun h c hc=>(by cases h),by go_num,?_,hb3⟩;rw [zAz];have e3:bv ch=.int .u8 (IntKind.u8.wrap z):=(by unfold bv;rw [Hch.out]);rw [List.map_cons,List.map_nil,e3];exact hown2
      case measure=>simp [intOf];omega
  · subst hT;obtain ⟨A',c',rfl,h3⟩:=aS hown;obtain ⟨H3,H4,H2⟩:=hqq3 h3 hb hfew;clear hown hb hfew h3;by_cases hkn:T.length < n
    · have hkm':¬T.length < most:=fun h=>hlt ⟨hkn,h⟩;have hmI:¬(T.length:Int) < (most:Int):=oM;clear hlt;go_wp2_with fail;go_ret;exact ⟨T,A',c',hkm,H2.out,rfl,H3.out,H4.out⟩
    · clear hlt;go_wp2_with fail;go_ret;exact ⟨T,A',c',hkm,H2.out,rfl,H3.out,H4.out⟩
theorem gE (a b:Nat) (ha:a < 4294967296) (hb:b < 4294967296):bits .xor .u32 (a:Int) (b:Int)=((a ^^^ b:Nat):Int):=by
 have hx:a ^^^ b < 2 ^ 32:=Nat.xor_lt_two_pow oM oM;have h1:(BitVec.ofInt 32 (a:Int)).toNat=a:=by rw [BitVec.ofInt_natCast,BitVec.toNat_ofNat];exact zBu oM
 have h2:(BitVec.ofInt 32 (b:Int)).toNat=b:=by rw [BitVec.ofInt_natCast,BitVec.toNat_ofNat];exact zBu oM
 show IntKind.u32.wrap ((BitVec.ofInt 32 (a:Int)^^^ BitVec.ofInt 32 (b:Int)).toNat:Int)=_;rw [BitVec.toNat_xor,h1,h2,IntKind.wrap_u32];omega
theorem aBG (a b:Nat) (ha:a < 256) (hb:b < 256):bits .xor .u8 (a:Int) (b:Int)=((a ^^^ b:Nat):Int):=by
 have hx:a ^^^ b < 2 ^ 8:=Nat.xor_lt_two_pow oM oM;have h1:(BitVec.ofInt 8 (a:Int)).toNat=a:=by rw [BitVec.ofInt_natCast,BitVec.toNat_ofNat];exact zBu oM
 have h2:(BitVec.ofInt 8 (b:Int)).toNat=b:=by rw [BitVec.ofInt_natCast,BitVec.toNat_ofNat];exact zBu oM
 show IntKind.u8.wrap ((BitVec.ofInt 8 (a:Int)^^^ BitVec.ofInt 8 (b:Int)).toNat:Int)=_;rw [BitVec.toNat_xor,h1,h2,IntKind.wrap_u8];omega
theorem lC (a:Nat) (ha:a < 4294967296):bits .and .u32 (a:Int) 1=((a % 2:Nat):Int):=by
 have h1:(BitVec.ofInt 32 (a:Int)).toNat=a:=by rw [BitVec.ofInt_natCast,BitVec.toNat_ofNat];exact zBu oM
 show IntKind.u32.wrap ((BitVec.ofInt 32 (a:Int)&&& BitVec.ofInt 32 (1:Int)).toNat:Int)=_;rw [BitVec.toNat_and,h1];have h2:(BitVec.ofInt 32 (1:Int)).toNat=1:=dC;rw [h2,IntKind.wrap_u32,Nat.and_one_is_mod];omega
theorem aCi (s:Nat) (hs:s < 4294967296) (w:World):
 Calls Tryz.prog 243 #[.int .u32 (s:Int),.bool false] w fun e w'=>e=.returned (.int .u32 ((cQ s:Nat):Int))/\Below w.heap.size w w':=by
 have e1:=lC s hs;go_enter Tryz.func243,Tryz.ntmps243;go_wp2_with fail
 · go_ret;refine ⟨?_,Below.refl _ _⟩
   rename_i h
   have h':s % 2=1:=(by have:=eq_of_beq h;omega);have e2:((s:Int)/ 2)=((s / 2:Nat):Int):=oM;have e3:(3988292384:Int)=((3988292384:Nat):Int):=rfl;show Ending.returned (Value.int .u32 (bits .xor .u32 ((s:Int)/ 2) 3988292384))=_;rw [e2,e3,gE _ _ oM oM,cQ,zBx h']
 · go_ret;refine ⟨?_,Below.refl _ _⟩
   rename_i h
   have h':¬s % 2=1:=(by intro h2;have:((s:Int)% 2==1)=true:=zCp.2 oM;rw [this] at h;cases h);show Ending.returned (Value.int .u32 ((s:Int)/ 2))=_;rw [cQ,zBw h'];rfl
def xE (i v:Nat):Nat->Nat:=fun p=>if p < i then iN p else if p=i then v else 0
theorem aFv (i v u:Nat):(fun p=>if p=i then u else xE i v p)=xE i u:=by
 funext p;unfold xE;by_cases h:p=i
 · rw [zBx h,zBw oM,zBx h]
 · rw [zBw h];by_cases h2:p < i
   · rw [zBx h2,zBx h2]
   · rw [zBw h2,zBw h2,zBw h,zBw h]
theorem aEf (i:Nat):xE i (iN i)=xE (i+1) 0:=by
 funext p;unfold xE;by_cases h:p < i
 · rw [zBx h,zBx oM]
 · rw [zBw h];by_cases h2:p=i
   · subst h2;rw [zBx rfl,zBx oM]
   · rw [zBw h2,zBw oM];split <;> rfl
@[irreducible] def crcC:Array Value:=jK .u32 256 iN
@[irreducible] def tabC (i v:Nat):Array Value:=jK .u32 256 (xE i v)
theorem aAZ {i v u:Nat} (h:i < 256):(tabC i v).setIfInBounds i (.int .u32 (u:Int))=tabC i u:=by
 unfold tabC;rw [kM h,aFv]
theorem uC {i v:Nat} (h:i < 256):(tabC i v)[i]?=some (.int .u32 (v:Int)):=by
 unfold tabC;rw [fL h];unfold xE;rw [zBw oM,zBx rfl]
theorem aEh (i:Nat):tabC i (dB 8 i)=tabC (i+1) 0:=by
 unfold tabC;rw [<-aEf];rfl
theorem yO:Array.replicate 256 (Value.int .u32 0)=tabC 0 0:=by
 unfold tabC;rw [nQ];exact cX fun i hi=>by unfold xE;rw [zBw oM];split <;> rfl
theorem aFw (v:Nat):tabC 256 v=crcC:=by
 unfold tabC crcC;exact cX fun i hi=>by unfold xE;rw [zBx hi]
theorem aGK {i:Nat} (h:i < 256):crcC[i]?=some (.int .u32 ((iN i:Nat):Int)):=by
 unfold crcC;exact fL h
theorem nP:crcC.size=256:=by unfold crcC;exact kL _ _ _
theorem aEg (i v:Nat):(tabC i v).size=256:=by unfold tabC;exact kL _ _ _
theorem aEd {w w':World} {tmps:Array Value} {g:Nat} (hp:tmps.getD 0 undef=.pointer (some ⟨g,0,none⟩)) (hb:Bk w' g 230 crcC) (hz:(Tryz.prog.info? 230).map (·.size)=some crcC.size) (hk:Below w.heap.size w w'):
 bodyPost Tryz.prog Tryz.f203 (fun e w'=>e=.returned (.agg crcC)/\Below w.heap.size w w') .ret ⟨tmps, []⟩ w':=
 bodyPost_ret (results_cell_row (P:=Tryz.prog) (fn:=Tryz.f203) (p:=0) (ty:=230) rfl tmps w' g 230 crcC (0,0) _ hp hb Tryz.underlying230 rfl hz) rfl ⟨rfl,hk⟩
theorem aFh (y:Nat) (h:y < 4294967296):bits .xor .u32 IntKind.u32.max (y:Int)=((4294967295 - y:Nat):Int):=by
 have e:IntKind.u32.max=((4294967295:Nat):Int):=dC;rw [e,gE _ _ oM h];congr 1;have e1:(4294967295:Nat)^^^ y=(BitVec.allOnes 32 ^^^ BitVec.ofNat 32 y).toNat:=by rw [BitVec.toNat_xor,BitVec.toNat_ofNat,zBu (by omega:y < 2 ^ 32)];rfl
 rw [e1,BitVec.allOnes_xor,BitVec.toNat_not,BitVec.toNat_ofNat,zBu (by omega:y < 2 ^ 32)]
theorem aAQ (w:World):
 Calls Tryz.prog 203 #[] w fun e w'=>e=.returned (.agg crcC)/\Below w.heap.size w w':=by
 go_enter Tryz.func203,Tryz.ntmps203;go_wp2_with fail;go_loopw [3] (fun i wr=>∃(k:Nat) (v:Nat),k<=256/\i=.int .i64 (k:Int)/\Bk wr w.heap.size 230 (tabC 0 0)/\Bk wr (w.heap.size+1) 230 (tabC k v)/\(k < 256->v=0)/\Below w.heap.size w wr) (fun i _=>256 -(intOf i).toNat)
 case atStart=>refine ⟨0,0,by omega,rfl,?_,?_,fun _=>rfl,?_⟩;rw [<-yO];exact (Bk.new _ _ _).alloc _;rw [<-yO];have h2:=Bk.new (w.alloc (.cells Tryz.zeroCells230 230)) 230 Tryz.zeroCells230;rw [show (w.alloc (.cells Tryz.zeroCells230 230)).heap.size=w.heap.size+1 by simp] at h2;exact h2;exact (bR.alloc nL _).alloc (by simp) _
 case round=>
  obtain ⟨k,v,hk,rfl,hb0,hb1,hv,hb⟩:=hrel;by_cases hlt:k < 256
  · have hv0:=hv hlt;subst hv0;have h1:((k:Int) < 256):=oM;have c1:wr.cell? ⟨w.heap.size+1,k,none⟩=some (.int .u32 0):=(hb1.cell k).trans (uC hlt);have f1:=hb1.frozen k;go_wp2_with fail;go_loopw [10] (fun i w2=>∃j:Nat,j<=8/\i=.int .i64 (j:Int)/\Bk w2 w.heap.size 230 (tabC 0 0)/\Bk w2 (w.heap.size+1) 230 (tabC k (dB j k))/\Below w.heap.size w w2) (fun i _=>8 -(intOf i).toNat)
    case atStart=>refine ⟨0,by omega,rfl,hb0.far (by simp) _,?_,hb.setCell (by simp) _⟩;have:=hb1.set k (.int .u32 (k:Int));rw [aAZ hlt] at this;exact this
    case round=>
        obtain ⟨j,hj,rfl,hi0,hi1,hi⟩:=hrel;by_cases hlj:j < 8
        · have hj1:((j:Int) < 8):=oM;have c2:wr.cell? ⟨w.heap.size+1,k,none⟩=some (.int .u32 ((dB j k:Nat):Int)):=(hi1.cell k).trans (uC hlt);go_wp2_with fail;refine (aCi (dB j k) (qB oM j) _).mono ?_;rintro e w3 ⟨rfl,hb3⟩;have hk1:=hi1.below hb3 hi1.lt;have hk0:=hi0.below hb3 hi0.lt;have c3:w3.cell? ⟨w.heap.size+1,k,none⟩=some (.int .u32 ((dB j k:Nat):Int)):=(hk1.cell k).trans (uC hlt);have f3:=hk1.frozen k;go_wp2_with fail;go_roundw
          case rel=>refine ⟨j+1,by omega,by go_num,hk0.far (by simp) _,?_,(hi.trans (hb3.mono hi.size)).setCell (by simp) _⟩;have:=hk1.set k (.int .u32 ((cQ (dB j k):Nat):Int));rw [aAZ hlt] at this;exact this
          case measure=>simp [intOf];omega
        · have hks:j=8:=oM;subst hks;go_wp2_with fail;go_roundw
          case rel=>rw [aEh] at hi1;exact ⟨k+1,0,by omega,by go_num,hi0,hi1,fun _=>rfl,hi⟩
          case measure=>simp [intOf];omega
  · have hks:k=256:=oM;subst hks;rw [aFw] at hb1;obtain ⟨H0,H1⟩:=hqq2 hb0 hb1;clear hb0 hb1;have hsz:(Tryz.prog.info? 230).map (·.size)=some crcC.size:=(by rw [nP];kernel_rfl);have hone:crcC.all (·.oneCell')=true:=(by unfold crcC jK;rw [Array.all_eq_true_iff_forall_mem];intro v hv;rw [List.mem_toArray,zAy] at hv;obtain ⟨p,_,rfl⟩:=hv;rfl);obtain ⟨HZ,HO⟩:=hqq2 hsz hone;clear hsz hone;go_wp2_with (first |(refine wpList_load_row (P:=Tryz.prog) rfl 230 (.tmp 1) rfl (w.heap.size+1) rfl 230 crcC (0,0) _ H1.out Tryz.underlying230 rfl HZ.out ?_)|(refine wpList_store_row (P:=Tryz.prog) rfl 230 (.tmp 0) (.tmp 20) rfl w.heap.size crcC rfl rfl 230 (tabC 0 0) H0.out HZ.out (by rw [aEg,nP]) HO.out ?_));exact aEd rfl (setRow_heap wr w.heap.size _ crcC _ _ H0.out) HZ.out (below_setRow hb nL _)
theorem aCj (s:Nat) (hs:s < 4294967296) (A:Option Addr) (n c:Nat) (b:List UInt8) (w:World) (hr:Rd w w.heap.size 1 A n (b.map bv)) (hn:n<=1099511627776):
 Calls Tryz.prog 144 #[.int .u32 (s:Int),.slice A n c] w fun e w'=>e=.returned (.int .u32 ((aAh s b:Nat):Int))/\Below w.heap.size w w':=by
 have hbl:b.length=n:=by have:=hr.1;simpa using this
 have H:=lhd hr;clear hr;have hsz:(Tryz.prog.info? 230).map (·.size)=some crcC.size:=by rw [nP];kernel_rfl
 have hone:crcC.all (·.oneCell')=true:=by unfold crcC jK;rw [Array.all_eq_true_iff_forall_mem];intro v hv;rw [List.mem_toArray,zAy] at hv;obtain ⟨p,_,rfl⟩:=hv;rfl
 obtain ⟨HZ,HO⟩:=hqq2 hsz hone;clear hsz hone;go_enter Tryz.func144,Tryz.ntmps144;go_wp2_with fail;refine (aAQ _).mono ?_;rintro e w1 ⟨rfl,hb1⟩;go_wp2_with (refine wpList_store_row (P:=Tryz.prog) rfl 230 (.tmp 5) (.tmp 8) rfl w1.heap.size crcC rfl rfl 230 Tryz.zeroCells230 (heap_alloc_new _ _) HZ.out (by rw [nP];kernel_rfl) HO.out ?_;rw [World.setRow_alloc_new]);rw [aFh s hs];have hl1:=hb1.size;go_loopw [0,13] (fun v i wr=>∃k:Nat,k<=n/\i=.int .i64 (k:Int)/\v=.int .u32 ((jQ (b.take k) (4294967295 - s):Nat):Int)/\Bk wr w1.heap.size 230 crcC/\Below w.heap.size w wr) (fun _ i _=>n -(intOf i).toNat)
 case atStart=>exact ⟨0,by omega,rfl,by rw [List.take_zero];rfl,Bk.new _ _ _,hb1.alloc hl1 _⟩
 case round=>
  obtain ⟨k,hk,rfl,rfl,hb2,hb⟩:=hrel;by_cases hlt:k < n
  · obtain ⟨bk,off,u,rfl,hbb,hu,hcell⟩:=(H.out.below hb).get hlt;rw [zAf] at hu;obtain ⟨x,hx⟩:∃x,b[k]?=some x:=⟨_,zAa oM⟩;rw [hx] at hu;injection hu with hu;subst hu;have hst:b.take (k+1)=b.take k++ [x]:=(by rw [zAv,hx];rfl);have hsn:=oT (b.take k) x (4294967295 - s);rw [<-hst] at hsn;have hvl:=mH (b.take k) (4294967295 - s) oM;obtain ⟨v,hv⟩:=eqx (jQ (b.take k) (4294967295 - s));rw [hv] at hsn hvl;rw [hv];have hin:=aGI hvl x;have hxl:=x.toNat_lt;have e1:bits .xor .u8 ((v:Int)% 256) (x.toNat:Int)=(((v % 256)^^^ x.toNat:Nat):Int):=(by have:((v:Int)% 256)=((v % 256:Nat):Int):=oM;rw [this,aBG _ _ oM hxl]);obtain ⟨y,hy⟩:=eqx ((v % 256)^^^ x.toNat);rw [hy] at hsn hin e1;have c1:wr.cell? ⟨w1.heap.size,y,none⟩=some (.int .u32 ((iN y:Nat):Int)):=(hb2.cell y).trans (aGK hin);have e2:bits .xor .u32 ((iN y:Nat):Int) ((v:Int)/ 256)=((iN y ^^^(v / 256):Nat):Int):=(by have:((v:Int)/ 256)=((v / 256:Nat):Int):=oM;rw [this,gE _ _ (yY hin) oM]);unfold bv at hcell;go_wp2_with fail;go_roundw
    case rel=>exact ⟨k+1,by omega,by go_num,by rw [hsn],hb2,hb⟩
    case measure=>simp [intOf];omega
  · have hks:k=n:=oM;subst hks;rw [zAg (by omega:b.length<=k)];have e1:=aFh _ (mH b (4294967295 - s) oM);go_wp2_with fail;go_ret;exact ⟨rfl,hb⟩
theorem nU (A AP:Option Addr) (n c cp:Nat) (b:List UInt8) (w:World) (hr:Rd w w.heap.size 1 A n (b.map bv)) (hn:n<=1099511627776) (hp:Rd w w.heap.size 1 AP 1 [.slice A n c]):
 Calls Tryz.prog 73 #[.slice AP 1 cp] w fun e w'=>e=.returned (.int .u32 ((gJ b:Nat):Int))/\Below w.heap.size w w':=by
 obtain ⟨bk,off,u,rfl,hbb,hu,hcell⟩:=hp.get (k:=0) oM;injection hu with hu;subst hu;go_enter Tryz.func73,Tryz.ntmps73;go_wp2_with fail;go_loopw [3,8] (fun v i wr=>∃k:Nat,k<=1/\i=.int .i64 (k:Int)/\v=.int .u32 (((if k=0 then 0 else gJ b):Nat):Int)/\Below w.heap.size w wr) (fun _ i _=>1 -(intOf i).toNat)
 case atStart=>exact ⟨0,by omega,rfl,rfl,Below.refl _ _⟩
 case round=>
  obtain ⟨k,hk,rfl,rfl,hb⟩:=hrel;by_cases hlt:k < 1
  · have hks:k=0:=oM;subst hks;have hcell:wr.cell? ⟨bk,off,none⟩=some (.slice A n c):=(hb.cell hbb).trans hcell;rw [zBx rfl];go_wp2_with fail;refine (aCj 0 oM A n c b wr ((hr.below hb).mono hb.size) hn).mono ?_;rintro e w1 ⟨rfl,hb1⟩;go_wp2_with fail;go_roundw
    case rel=>exact ⟨1,by omega,rfl,rfl,hb.trans (hb1.mono hb.size)⟩
    case measure=>simp [intOf]
  · have hks:k=1:=oM;subst hks;rw [zBw oM];go_wp2_with fail;go_ret;exact ⟨rfl,hb⟩
end Go.Proofs.YtnhmjomhloainaaGreatDoor
namespace Go.Proofs.YtnhmjomhloainaaGreatDoor
theorem aFO {l rs:List Nat} {m:Nat} (h:IsSuf l rs) (he:EndOk l m) (p:List UInt8):nY (aE l rs) p=(Nq l false (dE p),Nq l true (dE p)):=by
 have hL:(aE l rs).length=l.length:=by rw [bJ,h.len]
 unfold nY;rw [hL]
 induction p with
 | nil=>
   obtain ⟨h1,h2⟩:=aIJ l;show (0,l.length)=(Nq l false [],Nq l true []);rw [h1,h2]
 | cons c p ih=>
   rw [List.reverse_cons,List.foldl_append,ih];show (cE _ (c.toNat+1) (Nq l false (dE p)),cE _ (c.toNat+1) (Nq l true (dE p)))=_;rw [aDS h he _ _ _ oM,aDS h he _ _ _ oM];rfl
end Go.Proofs.YtnhmjomhloainaaGreatDoor
namespace Go.Proofs.YtnhmjomhloainaaGreatDoor
open Go.RowKit
theorem aF3 {l rs:List Nat} (h:IsSuf l rs) (b:Bool) (q:List Nat) (i:Nat) (hi:i < rs.length):Pq l b q rs[i]=decide (i < Nq l b q):=by
 have hN:rs.countP (Pq l b q)=Nq l b q:=h.count _;have ht:=rA (P:=Pq l b q) h.sorted (fun x y hxy hy=>aAz q hxy hy);rw [hN] at ht;rw [Bool.eq_iff_iff,zCa];constructor;intro hp;by_cases hlt:i < Nq l b q;exact hlt;exfalso;have hall:∀x∈rs.take (i+1),Pq l b q x=true:=(by intro x hx;obtain ⟨k,hk,rfl⟩:=zBo.1 hx;rw [zAj] at hk;rw [List.getElem_take];rcases zBe k i with h1 | h1;exact aAz q (zAr.1 h.sorted k i oM hi h1) hp;obtain rfl:k=i:=oM;exact hp);have h1:=List.countP_eq_length.2 hall;rw [zAj] at h1;have h2:(rs.take (i+1)).countP (Pq l b q)<=rs.countP (Pq l b q):=(List.take_sublist _ _).countP_le;omega;intro hlt;have hm:rs[i]∈rs.take (Nq l b q):=(by rw [List.mem_take_iff_getElem];exact ⟨i,by omega,rfl⟩);rw [ht,zCt] at hm;exact hm.2
theorem aHp {l rs:List Nat} (h:IsSuf l rs) (q:List Nat) (i:Nat) (hi:i < rs.length):rD l q rs[i]=true↔Nq l false q<=i/\i < Nq l true q:=by
 obtain ⟨h1,h2⟩:=aGZ l q rs[i];rw [aF3 h false q i hi,aF3 h true q i hi] at h1;rw [aF3 h false q i hi] at h2;constructor;intro hp;rw [hp] at h1 h2;constructor;rcases zBe i (Nq l false q) with h3 | h3;exact absurd ⟨zBz h3,rfl⟩ h2;exact h3;simpa using h1;rintro ⟨h3,h4⟩;rw [zBz h4,zBy oM] at h1;simpa using h1.symm
theorem aCZ {α:Type} (P:α->Bool) (rs:List α) (a b:Nat) (hab:a<=b) (hb:b<=rs.length) (h:∀i (hi:i < rs.length),P rs[i]=true↔a<=i/\i < b):(rs.drop a).take (b - a)=rs.filter P:=by
 have e:rs=rs.take a++((rs.drop a).take (b - a)++(rs.drop a).drop (b - a)):=by rw [zAu,zAu]
 conv=>rhs;rw [e]
 rw [List.filter_append,List.filter_append];have h1:(rs.take a).filter P= []:=List.filter_eq_nil_iff.2 fun x hx hp=>by obtain ⟨k,hk,rfl⟩:=zBo.1 hx;rw [zAj] at hk;rw [List.getElem_take] at hp;have:=(h k oM).1 hp;omega
 have h2:((rs.drop a).take (b - a)).filter P=(rs.drop a).take (b - a):=List.filter_eq_self.2 fun x hx=>by obtain ⟨k,hk,rfl⟩:=zBo.1 hx;rw [zAj,zAw] at hk;rw [List.getElem_take,List.getElem_drop];exact (h (a+k) oM).2 ⟨by omega,by omega⟩
 have h3:((rs.drop a).drop (b - a)).filter P= []:=List.filter_eq_nil_iff.2 fun x hx hp=>by obtain ⟨k,hk,rfl⟩:=zBo.1 hx;rw [zAw,zAw] at hk;rw [List.getElem_drop,List.getElem_drop] at hp;have:=(h (a+(b - a+k)) oM).1 hp;omega
 rw [h1,h2,h3];simp
def gU (t q:List UInt8):List Nat:=(List.range (t.length+1)).filter (rD (aD t) (dE q))
theorem aBb {t:List UInt8} {rs:List Nat} (h:IsSuf (aD t) rs) (q:List UInt8):((rs.drop (Nq (aD t) false (dE q))).take (Nq (aD t) true (dE q) - Nq (aD t) false (dE q))).Perm (gU t q):=by
 have hab:Nq (aD t) false (dE q)<=Nq (aD t) true (dE q):=by rw [aG0];omega
 rw [aCZ (rD (aD t) (dE q)) rs _ _ hab (by rw [h.len];exact aH9 _ _ _) (fun i hi=>aHp h (dE q) i hi)];have:=h.perm.filter (rD (aD t) (dE q));rw [aJ] at this;exact this
theorem pZ:∀(a b:List Int),a.Pairwise (fun x y=>x<=y)->b.Pairwise (fun x y=>x<=y)->a.Perm b->a=b
 | [],b,_,_,h=>h.nil_eq.symm ▸ rfl
 | x::a, [],_,_,h=>by simp at h
 | x::a,y::b,ha,hb,h=>by obtain ⟨h1,h2⟩:=List.pairwise_cons.1 ha;obtain ⟨h3,h4⟩:=List.pairwise_cons.1 hb;have hxy:x=y:=(by have hx:x∈y::b:=h.mem_iff.1 (by simp);have hy:y∈x::a:=h.mem_iff.2 (by simp);rcases List.mem_cons.1 hx with e | hx;exact e;rcases List.mem_cons.1 hy with e | hy;exact e.symm;have:=h1 y hy;have:=h3 x hx;omega);subst hxy;rw [pZ a b h2 h4 (List.perm_cons x |>.1 h)]
theorem aA5 {t:List UInt8} {rs:List Nat} (h:IsSuf (aD t) rs) (q:List UInt8):(((rs.drop (Nq (aD t) false (dE q))).take (Nq (aD t) true (dE q) - Nq (aD t) false (dE q))).map fun n:Nat=>(n:Int)).mergeSort (fun x y=>decide (x<=y))=(gU t q).map fun n:Nat=>(n:Int):=by
 refine pZ _ _ ?_ ?_ ((List.mergeSort_perm _ _).trans ((aBb h q).map _));have:=List.pairwise_mergeSort (le:=fun x y:Int=>decide (x<=y)) (fun a b c h1 h2=>by simp at*;omega) (fun a b=>by simp;omega) (((rs.drop (Nq (aD t) false (dE q))).take (Nq (aD t) true (dE q) - Nq (aD t) false (dE q))).map fun n:Nat=>(n:Int));exact this.imp fun h=>by simpa using h
 rw [List.pairwise_map];unfold gU;refine (List.Pairwise.filter _ List.pairwise_lt_range).imp fun {a b} h=>?_;omega
end Go.Proofs.YtnhmjomhloainaaGreatDoor
namespace Go.Proofs.YtnhmjomhloainaaGreatDoor
open Go.RowKit Go.Shelf
end Go.Proofs.YtnhmjomhloainaaGreatDoor
namespace Go.Proofs.YtnhmjomhloainaaGreatDoor
open Go.RowKit
theorem dW (L M:List Nat) (lv p:Nat):aK (L++M) lv p=aK L lv p++aK M lv p:=by
 unfold aK;rw [List.filter_append,zAz]
theorem jR (x:Nat) (M:List Nat) (lv p:Nat):aK (x::M) lv p=if bB x lv=p then fS x lv::aK M lv p else aK M lv p:=by
 unfold aK;rw [List.filter_cons];by_cases h:bB x lv=p
 · simp [h]
 · simp [h]
theorem qD (L:List Nat) (k lv p:Nat):aK L lv p=aK (L.take k) lv p++aK (L.drop k) lv p:=by
 rw [<-dW,zAu]
theorem zB (L:List Nat) (k s lv:Nat):(aK (L.take k) lv (bB s lv)).length=fH L k s lv:=by
 rw [kI];rfl
theorem aDo (L:List Nat) (k s lv:Nat):aK (aQ L k s) lv (bB s lv)=aQ (aK L lv (bB s lv)) (fH L k s lv) (fS s lv):=by
 have hl:=zB L k s lv;unfold aQ;rw [dW,jR,zBx rfl]
 conv=>rhs;rw [qD L k lv (bB s lv)]
 rw [<-hl,List.take_left,List.drop_left]
theorem xK (L:List Nat) (k s lv p:Nat) (h:bB s lv≠p):aK (aQ L k s) lv p=aK L lv p:=by
 unfold aQ;rw [dW,jR,zBw h,<-qD]
theorem aGG {L:List Nat} {k s:Nat} (h:L[k]?=some s):L=L.take k++s::L.drop (k+1):=by
 obtain ⟨hk,hx⟩:=zAc.1 h;rw [<-hx,<-zAx hk,zAu]
theorem aDp {L:List Nat} {k s:Nat} (lv:Nat) (h:L[k]?=some s):aK (aI L k) lv (bB s lv)=aI (aK L lv (bB s lv)) (fH L k s lv):=by
 have hl:=zB L k s lv;have e:aK L lv (bB s lv)=aK (L.take k) lv (bB s lv)++fS s lv::aK (L.drop (k+1)) lv (bB s lv):=by
  conv=>lhs;rw [aGG h]
  rw [dW,jR,zBx rfl]
 unfold aI;rw [dW,e];generalize aK (L.take k) lv (bB s lv)=A at hl⊢;generalize aK (L.drop (k+1)) lv (bB s lv)=C;rw [<-hl,List.take_left,List.drop_append,List.drop_eq_nil_of_le oM,show A.length+1 - A.length=1 by omega];rfl
theorem xL {L:List Nat} {k s:Nat} (lv p:Nat) (h:L[k]?=some s) (hp:bB s lv≠p):aK (aI L k) lv p=aK L lv p:=by
 conv=>rhs;rw [aGG h]
 unfold aI;rw [dW,dW,jR,zBw hp]
theorem aEb {α:Type} (l:List α) (k:Nat) (x:α) (h:k<=l.length):(aQ l k x).take k=l.take k:=by
 unfold aQ;have hl:(l.take k).length=k:=by rw [zAj];omega
 rw [List.take_append,hl,Nat.sub_self,List.take_zero,List.append_nil,List.take_take,Nat.min_self]
theorem aHE {L:List Nat} {k s M:Nat} (h:∀x∈L,x < M) (hs:s < M):∀x∈aQ L k s,x < M:=fun x hx=>by
 rcases List.mem_cons.1 ((fG L k s).mem_iff.1 hx) with rfl | h1;exact hs;exact h x h1
theorem qA {L:List Nat} {k M:Nat} (h:∀x∈L,x < M):∀x∈aI L k,x < M:=fun x hx=>by
 unfold aI at hx;rcases zCo.1 hx with h1 | h1;exact h x (List.mem_of_mem_take h1);exact h x (List.mem_of_mem_drop h1)
def TC (lv p:Nat):Nat:=16+512*lv+p
theorem aIG {lv p lv' p':Nat} (hp:p < 512) (hp':p' < 512) (h:TC lv p=TC lv' p'):lv=lv'/\p=p':=by
 unfold TC at h;omega
theorem aIm {lv p:Nat} (h:lv < 9) (hp:p < 2 ^ lv):p < 512:=by
 have:2 ^ lv<=2 ^ 9:=zBp dC oM;have e:(2:Nat)^ 9=512:=dC;omega
def dQ (own:Nat->Nat) (n m c b:Nat):Nat:=if b < n then own b else if b < m then c else 0
structure WaveS (w:World) (B:Nat) (own:Nat->Nat) (gv:Nat) (S:Nat->Value) (Ls:Nat->List Nat) (n v:Int):Prop where
 blk:Bk w gv 170 (wcells S n v)
 base:B<=gv/\own gv=2
 rows:∀lv,lv < 9->∃G:Nat->Nat,w.ownsRow B 173 3 (S lv) (2 ^ lv) (dT G lv (2 ^ lv))/\(∀b,(S lv).ownBlock=some b->own b=2)/\∀p,p < 2 ^ lv->TreeE w (fun b=>own b=TC lv p) (G p) (aK (Ls lv) lv p)
 bnd:∀b,own b≠0->B<=b/\b < w.heap.size
def WaveE (w:World) (B:Nat) (own:Nat->Nat) (gv:Nat) (L:List Nat):Prop:=∃S v,WaveS w B own gv S (fun _=>L) (L.length:Int) v
theorem WaveS.vis {w w':World} {B:Nat} {own:Nat->Nat} {gv:Nat} {S:Nat->Value} {Ls:Nat->List Nat} {n v:Int} (h:WaveS w B own gv S Ls n v) (k:Vis w w'):∃v',WaveS w' B own gv S Ls n v':=by
 obtain ⟨v',h1⟩:=k.waveC h.blk;refine ⟨v',h1,h.base,fun lv hl=>?_,fun b hb=>⟨(h.bnd b hb).1,zAl (h.bnd b hb).2 k.size⟩⟩;obtain ⟨G,g1,g2,g3⟩:=h.rows lv hl;exact ⟨G,k.own g1 dC dC,g2,fun p hp=>(g3 p hp).vis k⟩
theorem WaveE.vis {w w':World} {B:Nat} {own:Nat->Nat} {gv:Nat} {L:List Nat} (h:WaveE w B own gv L) (k:Vis w w'):WaveE w' B own gv L:=by
 obtain ⟨S,v,h⟩:=h;obtain ⟨v',h'⟩:=h.vis k;exact ⟨S,v',h'⟩
theorem WaveE.at {w:World} {B:Nat} {own:Nat->Nat} {gv:Nat} {L:List Nat} (h:WaveE w B own gv L):WaveAt w B gv L:=by
 obtain ⟨S,v,h⟩:=h;refine ⟨h.base.1,S,v,h.blk,fun lv hl=>?_⟩;obtain ⟨G,g1,g2,g3⟩:=h.rows lv hl;refine ⟨G,g1,fun p hp=>⟨?_,(g3 p hp).at⟩⟩;have h0:=(g3 p hp).1;exact (h.bnd (G p) (by rw [h0];unfold TC;omega)).1
theorem WaveS.edit {w w':World} {B:Nat} {own:Nat->Nat} {gv:Nat} {S:Nat->Value} {Ls:Nat->List Nat} {n v v':Int} (h:WaveS w B own gv S Ls n v) {lv p gx:Nat} (hlv:lv < 9) (hp:p < 2 ^ lv) {G:Nat->Nat} (hG:w.ownsRow B 173 3 (S lv) (2 ^ lv) (dT G lv (2 ^ lv)))
 (hgx:own gx < 16) (hgx2:∀cs,¬Bk w gx 173 cs) {bs':List Bool} (ht:TreeE w' (Gw (fun b=>own b=TC lv p) w.heap.size) (G p) bs') (hk:Keep (fun x=>own x=TC lv p∨x=gv∨x=gx) w w') (hb:Bk w' gv 170 (wcells S n v'))
 {L':List Nat} (hL:aK L' lv p=bs') (hL2:∀q,q≠p->aK L' lv q=aK (Ls lv) lv q):
 WaveS w' B (dQ own w.heap.size w'.heap.size (TC lv p)) gv S (fun l=>if l=lv then L' else Ls l) n v':=by
 have hB:B<=w.heap.size:=zAk h.base.1 (zCl h.blk.lt);have hold:∀b,b < w.heap.size->dQ own w.heap.size w'.heap.size (TC lv p) b=own b:=fun b hb=>by unfold dQ;rw [zBx hb]
 refine ⟨hb,⟨h.base.1,by rw [hold _ h.blk.lt];exact h.base.2⟩,fun l hl=>?_,fun b hb'=>?_⟩
 · obtain ⟨G',g1,g2,g3⟩:=h.rows l hl;refine ⟨G',aB g1 fun b cs hbo hk'=>hk.bk hk' fun f=>?_,fun b hbo=>?_,fun q hq=>?_⟩;rcases f with f | f | f;rw [g2 b hbo] at f;unfold TC at f;omega;subst f;exact absurd (aM hk' h.blk).1 dC;subst f;exact hgx2 cs hk';rw [hold _ (g1.lt b hbo).2];exact g2 b hbo
   · have hkeep:(l≠lv∨q≠p)->TreeE w' (fun b=>dQ own w.heap.size w'.heap.size (TC lv p) b=TC l q) (G' q) (aK (Ls l) l q):=fun hne=>by
        have ht':=(g3 q hq).keep hk fun b t cs hin hk' hf f=>by rcases f with f | f | f;rw [hf] at f;obtain ⟨e1,e2⟩:=aIG (aIm hl hq) (aIm hlv hp) f;rcases hne with h1 | h1;exact h1 e1;exact h1 e2;subst f;rw [(aM hk' h.blk).1] at hin;exact absurd hin dC;subst f;rw [hf] at hgx;unfold TC at hgx;omega
        have hmin:TreeE w (fun b=>own b=TC l q) (G' q) (aK (Ls l) l q):=g3 q hq;refine ht'.mono fun b hb' hf=>?_;have hlt:b < w.heap.size:=(h.bnd b (by rw [hf];unfold TC;omega)).2;rw [hold b hlt];exact hf
     by_cases e1:l=lv
     · subst e1;rw [zBx rfl];by_cases e2:q=p
       · subst e2;rw [hL]
         have hGG:G' q=G q:=by
           have h1:=g1.1;have e1:=(fQ G' l (2 ^ l) q hq).1;have e2:=(fQ G l (2 ^ l) q hq).1
           have e3:dT G' l (2 ^ l)=dT G l (2 ^ l):=by
             rcases g1.2 with ⟨a1,a2⟩|⟨g,cap,cur,a1,a2,a3,a4,a5,a6,a7⟩;have:=Nat.two_pow_pos l;omega
             · rcases hG.2 with ⟨c1,c2⟩|⟨g',cap',cur',c1,c2,c3,c4,c5,c6,c7⟩;have:=Nat.two_pow_pos l;omega
               · rw [a1] at c1;injection c1 with c1 _ _;injection c1 with c1;injection c1 with c1 _;subst c1;obtain ⟨_,rfl⟩:=aM a3 c3;rw [<-a7,<-c7]
           rw [e3,e2] at e1;injection e1 with e1;injection e1 with e1;injection e1 with e1;injection e1 with e1 _;exact e1.symm
         rw [hGG];refine ht.mono fun b hb' hf=>?_;rcases hf with hf | hf;rw [hold b (h.bnd b (by rw [hf];unfold TC;omega)).2];exact hf
         · unfold dQ;rw [zBw oM,zBx hb']
       rw [hL2 q e2];exact hkeep (.inr e2)
     rw [zBw e1];exact hkeep (.inl e1)
 unfold dQ at hb';by_cases c:b < w.heap.size;rw [zBx c] at hb';exact ⟨(h.bnd b hb').1,zAl c hk.size⟩;rw [zBw c] at hb';by_cases c2:b < w'.heap.size;exact ⟨by omega,c2⟩;rw [zBw c2] at hb';exact absurd rfl hb'
theorem aFi (S:Nat->Value) (n m v:Int):(wcells S n v).setIfInBounds 9 (.int .i64 m)=wcells S m v:=by
 unfold wcells;rfl
theorem WaveS.set_n {w:World} {B:Nat} {own:Nat->Nat} {gv:Nat} {S:Nat->Value} {Ls:Nat->List Nat} {n v:Int} (h:WaveS w B own gv S Ls n v) (m:Int):WaveS (w.setCell ⟨gv,9,none⟩ (.int .i64 m)) B own gv S Ls m v:=by
 have hk:Keep (fun b=>b=gv) w (w.setCell ⟨gv,9,none⟩ (.int .i64 m)):=Keep.setCell (F:=fun b=>b=gv) (Keep.refl _ _) (p:=⟨gv,9,none⟩) (.inl rfl) _;refine ⟨by have:=h.blk.set 9 (.int .i64 m);rw [aFi] at this;exact this,h.base,fun lv hl=>?_,fun b hb=>⟨(h.bnd b hb).1,zAl (h.bnd b hb).2 hk.size⟩⟩;obtain ⟨G,g1,g2,g3⟩:=h.rows lv hl;exact ⟨G,aB g1 fun b cs _ hk'=>hk.bk hk' (Bk.ne hk' h.blk dC),g2,fun p hp=>(g3 p hp).keep hk fun b t cs hin hk' _ e=>by
  have e':b=gv:=e;subst e';rw [(aM hk' h.blk).1] at hin;exact absurd hin dC⟩
theorem WaveS.far {w w':World} {B:Nat} {own:Nat->Nat} {gv:Nat} {S:Nat->Value} {Ls:Nat->List Nat} {n v:Int} (h:WaveS w B own gv S Ls n v) {H:Nat->Prop} (k:Keep H w w') (hH:∀b,H b->own b≠2/\own b < 16):WaveS w' B own gv S Ls n v:=by
 refine ⟨k.bk h.blk (fun f=>by have:=hH _ f;have:=h.base.2;omega),h.base,fun lv hl=>?_,fun b hb=>⟨(h.bnd b hb).1,zAl (h.bnd b hb).2 k.size⟩⟩;obtain ⟨G,g1,g2,g3⟩:=h.rows lv hl;exact ⟨G,aB g1 fun b cs hbo hk'=>k.bk hk' (fun f=>by have:=hH _ f;have:=g2 b hbo;omega),g2,fun p hp=>(g3 p hp).keep k fun b t cs hin hk' hf f=>by
  have:=hH b f;rw [hf] at this;unfold TC at this;omega⟩
theorem WaveE.far {w w':World} {B:Nat} {own:Nat->Nat} {gv:Nat} {L:List Nat} (h:WaveE w B own gv L) {H:Nat->Prop} (k:Keep H w w') (hH:∀b,H b->own b≠2/\own b < 16):WaveE w' B own gv L:=by
 obtain ⟨S,v,h⟩:=h;exact ⟨S,v,h.far k hH⟩
theorem WaveS.paint {w:World} {B:Nat} {own own':Nat->Nat} {gv:Nat} {S:Nat->Value} {Ls:Nat->List Nat} {n v:Int} (h:WaveS w B own gv S Ls n v) (h1:∀b,b < w.heap.size->2<=own b->own' b=own b) (h2:∀b,own' b≠0->B<=b/\b < w.heap.size):WaveS w B own' gv S Ls n v:=by
 refine ⟨h.blk,⟨h.base.1,by rw [h1 gv h.blk.lt (by rw [h.base.2];omega)];exact h.base.2⟩,fun lv hl=>?_,h2⟩;obtain ⟨G,g1,g2,g3⟩:=h.rows lv hl;refine ⟨G,g1,fun b hbo=>?_,fun p hp=>(g3 p hp).mono fun b hb hf=>?_⟩;rw [h1 b (g1.lt b hbo).2 (by rw [g2 b hbo];omega)];exact g2 b hbo;rw [h1 b hb (by rw [hf];unfold TC;omega)];exact hf
theorem WaveE.paint {w:World} {B:Nat} {own own':Nat->Nat} {gv:Nat} {L:List Nat} (h:WaveE w B own gv L) (h1:∀b,b < w.heap.size->2<=own b->own' b=own b) (h2:∀b,own' b≠0->B<=b/\b < w.heap.size):WaveE w B own' gv L:=by
 obtain ⟨S,v,h⟩:=h;exact ⟨S,v,h.paint h1 h2⟩
end Go.Proofs.YtnhmjomhloainaaGreatDoor
