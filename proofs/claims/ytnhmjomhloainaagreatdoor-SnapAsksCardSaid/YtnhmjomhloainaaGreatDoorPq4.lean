/- Parts of the walk, joined from several texts. Conditions: what each lemma says. -/
import Derived.Test.YtnhmjomhloainaaGreatDoorPq3
import Derived.Laws.StructEq
import Derived.BigQuiet
import Derived.Deep.QuietTactic
set_option linter.all false
set_option maxRecDepth 100000
set_option maxHeartbeats 4000000
namespace Go.Proofs.YtnhmjomhloainaaGreatDoor
open Go.RowKit
def gT (x:Int×Nat):List Value:= [iv x.1,iv (x.2:Int)]
def bC (r:List (Int×Nat)):List Value:=r.flatMap gT
theorem iQ (r:List (Int×Nat)):(bC r).length=r.length*2:=by
 induction r with
 | nil=>rfl
 | cons a r ih=>
   have e:bC (a::r)=gT a++bC r:=(by simp [bC]);rw [e,zAi,ih,zCf];simp [gT];omega
theorem dO (a b:List (Int×Nat)):bC (a++b)=bC a++bC b:=by simp [bC,List.flatMap_append]
theorem dP (r:List (Int×Nat)) (i j:Nat) (x:Int×Nat) (h:r[i]?=some x) (hj:j < 2):(bC r)[i*2+j]?=(gT x)[j]?:=by
 induction r generalizing i with
 | nil=>simp at h
 | cons a r ih=>
   have e:bC (a::r)=gT a++bC r:=(by simp [bC]);have hl:(gT a).length=2:=rfl;rcases i with _ | i
   · simp at h;subst h;rw [e,Nat.zero_mul,zBi,zAn oM]
   simp only [List.getElem?_cons_succ] at h;rw [e,zAo oM,hl,show (i+1)*2+j - 2=i*2+j by omega];exact ih i h
theorem aFM:(Tryz.prog.info? 187).map (fun i=>(i.zero,i.size,i.bytes))=some (some (.agg #[.int .i64 0,.int .i64 0]),2,16):=by kernel_rfl
theorem aIH (A:Option Addr) (m c B:Nat) (l:List Int) (w:World) (hr:Rd w B 1 A m (l.map iv)) (hB:B<=w.heap.size) (hm:m<=1099511627776):
 Calls Tryz.prog 142 #[.slice A m c] w fun e w'=>∃v,e=.returned v/\w'.ownsRow w.heap.size 187 2 v (aU l).length (bC (aU l))/\Below w.heap.size w w':=by
 obtain ⟨i0,hi0,hz0,hz1,hz2⟩:=info_parts aFM;have hll:l.length=m:=by simpa using hr.1
 obtain ⟨Hll,Hr⟩:=hqq2 hll (hr.mono hB);clear hr hll;go_enter Tryz.func142,Tryz.ntmps142;go_wp2;go_loopw [3,9] (fun v i wr=>∃k:Nat,k<=m/\i=.int .i64 k/\wr.ownsRow w.heap.size 187 2 v (aU (l.take k)).length (bC (aU (l.take k)))/\Below w.heap.size w wr) (fun _ i _=>m -(intOf i).toNat)
 case atStart=>exact ⟨0,zAp _,rfl,World.ownsRow_nil _ _ _ _,Below.refl _ _⟩
 case round=>
  obtain ⟨k,hk,rfl,hown,hb⟩:=hrel;have hsz:=hb.size;by_cases hlt:k < m
  · obtain ⟨s,hs⟩:∃s,l[k]?=some s:=⟨l[k]'(by have:=Hll.out;omega),zAa (by have:=Hll.out;omega)⟩;obtain ⟨b,off,u,rfl,hbl,hu,hc⟩:=(Hr.out.below hb).get hlt;rw [zAf,hs] at hu;simp at hu;subst hu;unfold iv at hc;have hnext:=rY l k s hs;have hlen:=gN (l.take k);rw [zAj] at hlen;have hcnt:∀x∈aU (l.take k),x.2<=m:=fun x hx=>by have:=jA _ x hx;rw [zAj] at this;omega
    generalize aU (l.take k)=r at*
    have Hnext:=lhd hnext;clear hnext hs;rcases List.eq_nil_or_concat r with rfl |⟨q,⟨x,n⟩,rfl⟩
    · obtain ⟨A',c',rfl,hm3⟩:=aS hown;have hlen0:([]:List (Int×Nat)).length=0:=rfl;rw [hlen0] at*
      clear hm3 hcnt;go_wp2_with (at_builtin;refine aY _ rfl (.tmp 36) (.tmp 39) _ rfl w.heap.size 187 i0 _ 2 16 Tryz.underlying184 hi0 hz0 hz1 hz2 rfl dC (.slice A' 0 c') 0 _ rfl hown rfl rfl (by simp [Value.oneCell']) (by unfold maxLen;omega) oM hsz ?_;intro v2 w2 hown2 hg2 hs2 hat2);have hb2:=aW hb hown hg2 hsz;clear hg2 hat2;go_roundw
      case rel=>refine ⟨k+1,by omega,by go_num,?_,hb2⟩;rw [Hnext.out,rZ];exact hown2
      case measure=>simp [intOf];omega
    · rw [List.concat_eq_append] at*
      obtain ⟨p,hp⟩:=eqx q.length;have hl1:(q++ [(x,n)]).length=p+1:=(by simp [hp]);rw [hl1] at hown hlen;obtain ⟨g,cap,cur,rfl,hg0,hgb,hpc,hcm,_⟩:∃g cap cur,u3=.slice (some ⟨g,0,none⟩) (p+1) cap/\w.heap.size<=g/\wr.heap[g]?=some (.cells cur 187 (0,0))/\p+1<=cap/\cap<=maxLen/\True:=(by rcases hown.2 with ⟨_,h⟩|⟨g,cap,cur,h1,h2,h3,h4,h5,_⟩;omega;exact ⟨g,cap,cur,h1,h2,h3,h4,h5,trivial⟩);have hx0:(bC (q++ [(x,n)]))[p*2]?=some (iv x):=(by have:=dP (q++ [(x,n)]) p 0 (x,n) (by rw [zAo oM,hp];simp) oM;simpa [gT] using this);have hx1:(bC (q++ [(x,n)]))[p*2+1]?=some (iv n):=(by have:=dP (q++ [(x,n)]) p 1 (x,n) (by rw [zAo oM,hp];simp) oM;simpa [gT] using this);have g0:wr.cell? ⟨g,p*2,none⟩=some (.int .i64 x):=(hown.cellAt (p*2) oM).trans hx0;have g1:wr.cell? ⟨g,p*2+1,none⟩=some (.int .i64 (n:Int)):=(hown.cellAt (p*2+1) oM).trans hx1;have f1:=hown.frozenAt (p*2+1);have hnb:(n:Int)<=1099511627776:=(by have:=hcnt (x,n) (by simp);simp only at this;omega);have hpp:((p+1:Nat):Int) - 1=(p:Int):=oM;have Hp:=lhd hp;clear hx0 hx1 hp hl1 hgb hcnt;by_cases hxs:x=s
      · have t1:(x==s)=true:=(by rw [zCp];exact hxs);have Hxs:=lhd hxs;clear hxs;go_wp2;obtain ⟨hst,hgr⟩:=hown.stored (p*2+1) (.int .i64 ((n:Int)+1));refine ⟨⟨k+1,by omega,by go_num,?_,hb.setCell (p:=⟨g,p*2+1,none⟩) hg0 _⟩,by simp [intOf];omega⟩;rw [Hnext.out,<-Hxs.out,fB];have e1:(q++ [(x,n+1)]).length=p+1:=(by simp [Hp.out]);have e2:(bC (q++ [(x,n)])).set (p*2+1) (.int .i64 ((n:Int)+1))=bC (q++ [(x,n+1)]):=(by rw [dO,dO,List.set_append_right _ _ (by rw [iQ,Hp.out];omega),iQ,Hp.out];congr 1;rw [show p*2+1 - p*2=1 by omega];rfl);rw [e1,<-e2];exact hst
      · have t1:(x==s)=false:=(by rw [zCb];exact hxs);have Hxs:=lhd hxs;clear hxs;go_wp2_with (at_builtin;refine aY _ rfl (.tmp 36) (.tmp 39) _ rfl w.heap.size 187 i0 _ 2 16 Tryz.underlying184 hi0 hz0 hz1 hz2 rfl dC (.slice (some ⟨g,0,none⟩) (p+1) cap) (p+1) _ rfl hown rfl rfl (by simp [Value.oneCell']) (by unfold maxLen;omega) oM hsz ?_;intro v2 w2 hown2 hg2 hs2 hat2);have hb2:=aW hb hown hg2 hsz;clear hg2 hat2;go_roundw
        case rel=>refine ⟨k+1,by omega,by go_num,?_,hb2⟩;rw [Hnext.out,eS _ _ _ _ Hxs.out,dO];have e1:(q++ [(x,n)]++ [(s,1)]).length=p+1+1:=(by simp [Hp.out]);rw [e1];exact hown2
        case measure=>simp [intOf];omega
  · have hkm:k=m:=oM;have htk:l.take k=l:=zAg (by have:=Hll.out;omega);have hge:m<=k:=oM;rw [htk] at hown;clear hkm htk;go_wp2;go_ret;exact ⟨u3,rfl,hown,hb⟩
theorem aGY (A:Option Addr) (m c B:Nat) (l:List Int) (w:World) (r:List (Int×Nat)) (n:Nat) (h:aU l=r) (hn:r.length=n) (hr:Rd w B 1 A m (l.map iv)) (hB:B<=w.heap.size) (hm:m<=1099511627776):
 Calls Tryz.prog 142 #[.slice A m c] w fun e w'=>∃A' c',e=.returned (.slice A' n c')/\Made w' w.heap.size 187 2 A' n c' (bC r)/\Below w.heap.size w w':=by
 subst h;subst hn;refine (aIH A m c B l w hr hB hm).mono fun e w' ⟨v,he,ho,hb⟩=>?_;obtain ⟨A',c',rfl,hm⟩:=aS ho;exact ⟨A',c',he,hm,hb⟩
def gK (l:List Bool):Array Value:=#[.int .i64 (l.length:Int),.int .u64 ((w0 l:Nat):Int),.int .u64 ((w1 l:Nat):Int)]
theorem aEC (a b:Nat) (ha:a < 18446744073709551616) (hb:b < 18446744073709551616):bits .or .u64 (a:Int) (b:Int)=((a||| b:Nat):Int):=
 (bits_nat .u64 64 dC (fun n h0 h1=>by rw [IntKind.wrap_u64];omega) a b oM oM).2
theorem lM (A:Option Addr) (m c B:Nat) (l:List Bool) (w:World) (hr:Rd w B 1 A m (l.map Value.bool)) (hB:B<=w.heap.size) (hm:m<=128):
 Calls Tryz.prog 240 #[.slice A m c] w fun e w'=>e=.returned (.tuple #[.pointer (some ⟨w.heap.size,0,none⟩),.int .i64 0])/\Bk w' w.heap.size 254 (gK l)/\Below w.heap.size w w':=by
 have hll:l.length=m:=by simpa using hr.1
 obtain ⟨Hll,Hr⟩:=hqq2 hll (hr.mono hB);have hd:¬((m:Int) > 128):=oM;clear hr hll;obtain ⟨gb,hgb⟩:=eqx w.heap.size;go_enter Tryz.func240,Tryz.ntmps240;go_wp2;have hb0:=(Below.refl w.heap.size w).alloc nL (.cells #[.int .i64 (m:Int),.int .u64 0,.int .u64 0] 254);have hbk0:=Bk.new w 254 #[.int .i64 (m:Int),.int .u64 0,.int .u64 0];rw [hgb] at hbk0
 try rw [hgb]
 go_loopw [16] (fun i wr=>∃k:Nat,k<=m/\i=.int .i64 k/\Bk wr gb 254 #[.int .i64 (m:Int),.int .u64 ((w0 (l.take k):Nat):Int),.int .u64 ((w1 (l.take k):Nat):Int)]/\Below w.heap.size w wr) (fun i _=>m -(intOf i).toNat)
 case atStart=>exact ⟨0,zAp _,rfl,hbk0,hb0⟩
 case round=>
  obtain ⟨k,hk,rfl,hbk,hb⟩:=hrel;have hsz:=hb.size;by_cases hlt:k < m
  · have hkl:k < l.length:=(by rw [Hll.out];exact hlt);obtain ⟨x,hx⟩:∃x,l[k]?=some x:=⟨l[k],zAa hkl⟩;obtain ⟨b,off,u,rfl,hbl,hu,hc⟩:=(Hr.out.below hb).get hlt;rw [zAf,hx] at hu;simp at hu;subst hu;have htk:l.take (k+1)=l.take k++ [x]:=(by rw [zAv,hx];rfl);have hlk:(l.take k).length=k:=(by rw [zAj];omega);cases x with
    | false=>
      have hn:w0 (l.take (k+1))=w0 (l.take k)/\w1 (l.take (k+1))=w1 (l.take k):=(by rw [htk];rcases zBe k 64 with h | h;have:=yJ (l.take k) false oM;simpa using this;have:=yK (l.take k) false oM;simpa using this);obtain ⟨Hn,Hbk⟩:=hqq2 hn hbk;clear hn htk hlk hx hbk;go_wp2;go_roundw
      case rel=>exact ⟨k+1,by omega,by go_num,by rw [Hn.out.1,Hn.out.2];exact Hbk.out,hb⟩
      case measure=>simp [intOf];omega
    | true=>
      rcases zBe k 64 with h64 | h64
      · obtain ⟨r,hr⟩:∃r:Nat,r=k:=⟨_,rfl⟩;have hq64:IntKind.i64.wrap ((k:Int)/ 64)=0:=(by rw [IntKind.wrap_i64];omega);have hm64:(k:Int).tmod 64=(r:Int):=(by rw [Int.tmod_eq_emod_of_nonneg oM];omega);have hu64:IntKind.u64.wrap (r:Int)=(r:Int):=(by rw [IntKind.wrap_u64];omega);have hr64:r < 64:=oM;obtain ⟨P,hP⟩:∃P:Nat,P=2 ^ r:=⟨_,rfl⟩;have hP64:P < 18446744073709551616:=(by have:=Nat.pow_lt_pow_right (a:=2) dC hr64;omega);obtain ⟨W,hW⟩:∃W:Nat,W=w0 (l.take k):=⟨_,rfl⟩;obtain ⟨Z,hZ⟩:∃Z:Nat,Z=w1 (l.take k):=⟨_,rfl⟩;obtain ⟨W2,hW2⟩:∃W2:Nat,W2=W+P:=⟨_,rfl⟩;have hWs:W < P:=(by have:=aFl (l.take k) oM;rw [hlk] at this;rw [hW,hP,hr];exact this);have hn:=yJ (l.take k) true oM;rw [<-htk,<-hW,<-hZ,hlk] at hn;have hn2:w0 (l.take (k+1))=W2/\w1 (l.take (k+1))=Z:=⟨by rw [hn.1,hW2,hP,hr];rfl,hn.2⟩;have hor:bits .or .u64 (W:Int) (P:Int)=(W2:Int):=(by rw [aEC W P oM hP64,hP,aF9 W r (by rw [<-hP];exact hWs),hW2,hP]);have HW:=lhd hor;have hPP:IntKind.u64.wrap ((2:Int)^ r)=(P:Int):=(by rw [hP,IntKind.wrap_u64];have e:((2:Int)^ r)=((2 ^ r:Nat):Int):=(by push_cast;rfl);rw [e,<-hP];omega);obtain ⟨HP,Hn2⟩:=hqq2 hPP hn2;rw [<-hW,<-hZ] at hbk;clear hor hPP hn hn2 hW hZ hW2 hP hWs htk hlk hx hr;go_wp2;refine wp_region_any kR ?_;refine cB [22,23,24,25,26,27,28,29,30,31,32,33,34,35,36] (fun b=>b=gb) 15 [6,15] (fun w1=>Bk w1 gb 254 #[.int .i64 (m:Int),.int .u64 (W:Int),.int .u64 (Z:Int)]) (fun _ w1=>Bk w1 gb 254 #[.int .i64 (m:Int),.int .u64 (W2:Int),.int .u64 (Z:Int)]) [is (.pointer (some ⟨gb,0,none⟩)),is (.int .i64 (k:Int)),is (.int .i64 0),is (.pointer (some ⟨gb,0,none⟩)),is (.pointer (some ⟨gb,1,none⟩)),is (.pointer (some ⟨gb,1,none⟩)),is (.int .u64 (W:Int)),is (.int .i64 (k:Int)),is (.int .i64 (r:Int)),is (.int .u64 (r:Int)),is (.int .u64 (P:Int)),is (.int .u64 (W2:Int)),is (.pointer (some ⟨gb,0,none⟩)),is (.pointer (some ⟨gb,1,none⟩)),is (.pointer (some ⟨gb,1,none⟩)),dJ] _ _ rfl kR kR (hbk) (fun w1 w2 h _ hg=>Bk.below h hg h.lt) (fun _ _ _ h k=>Bk.below h k h.lt) (by repeat' (first | exact cL _ _ | exact bV _ |(refine zAe.2 ⟨?_,?_⟩)|(intro p hp;cases hp))) ?_ ?_
        · refine aT ?_;refine pH3 4 (.pointer (some ⟨gb,0,none⟩)) ?_;refine pH3 5 (.int .i64 (k:Int)) ?_;refine sC3 (fun _ _ _ _ _ _ _ hval _ _ _ hK=>?_) ?_
          · have e23:_=_:=hval 1 23 kR rfl;go_simp;exact hK _ _ (aP bR) (eB (by first | rfl | omega))
          refine pV3 0 22 ?_;refine pV3 3 25 ?_;refine pW3 4 26 2 24 ?_;refine sC3 (fun _ w5 _ hU _ _ _ hval _ _ _ hK=>?_) ?_
          · have hpre:=hU rfl;have e27:_=_:=hval 5 27 kR rfl;have c28:w5.cell? ⟨gb,1,none⟩=some (.int .u64 (W:Int)):=(hpre.cell 1).trans rfl;go_simp;exact kq hK rfl
          refine pH3 5 (.int .i64 (k:Int)) ?_;refine sC3 (fun _ _ _ _ _ _ _ hval _ _ _ hK=>?_) ?_
          · have e29:_=_:=hval 7 29 kR rfl;go_simp;exact hK _ _ (aP bR) (eB (by first | rfl | omega))
          refine sC3 (fun _ _ _ _ _ _ _ hval _ _ _ hK=>?_) ?_
          · have e30:_=_:=hval 8 30 kR rfl;go_simp;exact hK _ _ (aP bR) (gA (by first | rfl | omega))
          refine sC3 (fun _ _ _ _ _ _ _ hval _ _ _ hK=>?_) ?_
          · have e31:_=_:=hval 9 31 kR rfl;go_simp;exact hK _ _ (aP bR) (gA (by first | exact HP.out | simpa using HP.out))
          refine sC3 (fun _ _ _ _ _ _ _ hval _ _ _ hK=>?_) ?_
          · have e28:_=_:=hval 6 28 kR rfl;have e32:_=_:=hval 10 32 kR rfl;go_simp;exact hK _ _ (aP bR) (gA HW.out)
          refine pV3 0 22 ?_;refine pV3 12 34 ?_;refine pW3 13 35 2 24 ?_;refine sC3 (fun _ w5 _ hU _ _ _ hval _ _ _ hK=>?_) ?_
          · have hpre:=hU rfl;have e36:_=_:=hval 14 36 kR rfl;have e33:_=_:=hval 11 33 kR rfl;have c28:w5.cell? ⟨gb,1,none⟩=some (.int .u64 (W:Int)):=(hpre.cell 1).trans rfl;have f28:=hpre.frozen 1;go_simp;exact hK (.bool true) _ (bG (Keep.setCell (F:=fun b=>b=gb) (Keep.refl _ _) (p:=⟨gb,1,none⟩) (.inl rfl) _)) (hpre.set 1 _)
          exact aG
        · intro ev w6 hS hval hall;replace hS:Keep (fun b=>b=gb) wr w6:=kD hS;obtain ⟨vJ,pJ⟩:∃v,(fun _ w1=>Bk w1 gb 254 #[.int .i64 (m:Int),.int .u64 (W2:Int),.int .u64 (Z:Int)]) v w6:=hall 15 dC;simp only [aO,zq1,zq2,Act.put,zq3,zq4,zq5];clear hval hall;have hb6:Below w.heap.size w w6:=hb.trans (hS.to_below hsz (fun b hb h=>absurd (show b=gb from h) oM));go_wp2;go_roundw
          case rel=>exact ⟨k+1,by omega,by go_num,by rw [Hn2.out.1,Hn2.out.2];exact pJ,hb6⟩
          case measure=>simp [intOf];omega
      · obtain ⟨r,hr⟩:∃r:Nat,r=k - 64:=⟨_,rfl⟩;have hq64:IntKind.i64.wrap ((k:Int)/ 64)=1:=(by rw [IntKind.wrap_i64];omega);have hm64:(k:Int).tmod 64=(r:Int):=(by rw [Int.tmod_eq_emod_of_nonneg oM];omega);have hu64:IntKind.u64.wrap (r:Int)=(r:Int):=(by rw [IntKind.wrap_u64];omega);have hr64:r < 64:=oM;obtain ⟨P,hP⟩:∃P:Nat,P=2 ^ r:=⟨_,rfl⟩;have hP64:P < 18446744073709551616:=(by have:=Nat.pow_lt_pow_right (a:=2) dC hr64;omega);obtain ⟨W,hW⟩:∃W:Nat,W=w1 (l.take k):=⟨_,rfl⟩;obtain ⟨Z,hZ⟩:∃Z:Nat,Z=w0 (l.take k):=⟨_,rfl⟩;obtain ⟨W2,hW2⟩:∃W2:Nat,W2=W+P:=⟨_,rfl⟩;have hWs:W < P:=(by have:=aFj (l.take k);rw [hlk] at this;rw [hW,hP,hr];exact this);have hn:=yK (l.take k) true oM;rw [<-htk,<-hW,<-hZ,hlk] at hn;have hn2:w1 (l.take (k+1))=W2/\w0 (l.take (k+1))=Z:=⟨by rw [hn.2,hW2,hP,hr];rfl,hn.1⟩;have hor:bits .or .u64 (W:Int) (P:Int)=(W2:Int):=(by rw [aEC W P oM hP64,hP,aF9 W r (by rw [<-hP];exact hWs),hW2,hP]);have HW:=lhd hor;have hPP:IntKind.u64.wrap ((2:Int)^ r)=(P:Int):=(by rw [hP,IntKind.wrap_u64];have e:((2:Int)^ r)=((2 ^ r:Nat):Int):=(by push_cast;rfl);rw [e,<-hP];omega);obtain ⟨HP,Hn2⟩:=hqq2 hPP hn2;rw [<-hW,<-hZ] at hbk;clear hor hPP hn hn2 hW hZ hW2 hP hWs htk hlk hx hr;go_wp2;refine wp_region_any kR ?_;refine cB [22,23,24,25,26,27,28,29,30,31,32,33,34,35,36] (fun b=>b=gb) 15 [6,15] (fun w1=>Bk w1 gb 254 #[.int .i64 (m:Int),.int .u64 (Z:Int),.int .u64 (W:Int)]) (fun _ w1=>Bk w1 gb 254 #[.int .i64 (m:Int),.int .u64 (Z:Int),.int .u64 (W2:Int)]) [is (.pointer (some ⟨gb,0,none⟩)),is (.int .i64 (k:Int)),is (.int .i64 1),is (.pointer (some ⟨gb,0,none⟩)),is (.pointer (some ⟨gb,1,none⟩)),is (.pointer (some ⟨gb,2,none⟩)),is (.int .u64 (W:Int)),is (.int .i64 (k:Int)),is (.int .i64 (r:Int)),is (.int .u64 (r:Int)),is (.int .u64 (P:Int)),is (.int .u64 (W2:Int)),is (.pointer (some ⟨gb,0,none⟩)),is (.pointer (some ⟨gb,1,none⟩)),is (.pointer (some ⟨gb,2,none⟩)),dJ] _ _ rfl kR kR (hbk) (fun w1 w2 h _ hg=>Bk.below h hg h.lt) (fun _ _ _ h k=>Bk.below h k h.lt) (by repeat' (first | exact cL _ _ | exact bV _ |(refine zAe.2 ⟨?_,?_⟩)|(intro p hp;cases hp))) ?_ ?_
        · refine aT ?_;refine pH3 4 (.pointer (some ⟨gb,0,none⟩)) ?_;refine pH3 5 (.int .i64 (k:Int)) ?_;refine sC3 (fun _ _ _ _ _ _ _ hval _ _ _ hK=>?_) ?_
          · have e23:_=_:=hval 1 23 kR rfl;go_simp;exact hK _ _ (aP bR) (eB (by first | rfl | omega))
          refine pV3 0 22 ?_;refine pV3 3 25 ?_;refine pW3 4 26 2 24 ?_;refine sC3 (fun _ w5 _ hU _ _ _ hval _ _ _ hK=>?_) ?_
          · have hpre:=hU rfl;have e27:_=_:=hval 5 27 kR rfl;have c28:w5.cell? ⟨gb,2,none⟩=some (.int .u64 (W:Int)):=(hpre.cell 2).trans rfl;go_simp;exact kq hK rfl
          refine pH3 5 (.int .i64 (k:Int)) ?_;refine sC3 (fun _ _ _ _ _ _ _ hval _ _ _ hK=>?_) ?_
          · have e29:_=_:=hval 7 29 kR rfl;go_simp;exact hK _ _ (aP bR) (eB (by first | rfl | omega))
          refine sC3 (fun _ _ _ _ _ _ _ hval _ _ _ hK=>?_) ?_
          · have e30:_=_:=hval 8 30 kR rfl;go_simp;exact hK _ _ (aP bR) (gA (by first | rfl | omega))
          refine sC3 (fun _ _ _ _ _ _ _ hval _ _ _ hK=>?_) ?_
          · have e31:_=_:=hval 9 31 kR rfl;go_simp;exact hK _ _ (aP bR) (gA (by first | exact HP.out | simpa using HP.out))
          refine sC3 (fun _ _ _ _ _ _ _ hval _ _ _ hK=>?_) ?_
          · have e28:_=_:=hval 6 28 kR rfl;have e32:_=_:=hval 10 32 kR rfl;go_simp;exact hK _ _ (aP bR) (gA HW.out)
          refine pV3 0 22 ?_;refine pV3 12 34 ?_;refine pW3 13 35 2 24 ?_;refine sC3 (fun _ w5 _ hU _ _ _ hval _ _ _ hK=>?_) ?_
          · have hpre:=hU rfl;have e36:_=_:=hval 14 36 kR rfl;have e33:_=_:=hval 11 33 kR rfl;have c28:w5.cell? ⟨gb,2,none⟩=some (.int .u64 (W:Int)):=(hpre.cell 2).trans rfl;have f28:=hpre.frozen 2;go_simp;exact hK (.bool true) _ (bG (Keep.setCell (F:=fun b=>b=gb) (Keep.refl _ _) (p:=⟨gb,2,none⟩) (.inl rfl) _)) (hpre.set 2 _)
          exact aG
        · intro ev w6 hS hval hall;replace hS:Keep (fun b=>b=gb) wr w6:=kD hS;obtain ⟨vJ,pJ⟩:∃v,(fun _ w1=>Bk w1 gb 254 #[.int .i64 (m:Int),.int .u64 (Z:Int),.int .u64 (W2:Int)]) v w6:=hall 15 dC;simp only [aO,zq1,zq2,Act.put,zq3,zq4,zq5];clear hval hall;have hb6:Below w.heap.size w w6:=hb.trans (hS.to_below hsz (fun b hb h=>absurd (show b=gb from h) oM));go_wp2;go_roundw
          case rel=>exact ⟨k+1,by omega,by go_num,by rw [Hn2.out.1,Hn2.out.2];exact pJ,hb6⟩
          case measure=>simp [intOf];omega
  · have hge:m<=k:=oM;have htk:l.take k=l:=zAg (by have:=Hll.out;omega);rw [htk] at hbk;have hfin:Bk wr gb 254 (gK l):=(by unfold gK;rw [Hll.out];exact hbk);clear htk hbk;go_wp2;go_ret2;rw [hgb] at hb⊢;exact ⟨rfl,hfin,hb⟩
theorem qU (gb:Nat) (l:List Bool) (w:World) (hb:Bk w gb 254 (gK l)):
 Calls Tryz.prog 271 #[.pointer (some ⟨gb,0,none⟩)] w fun e w'=>e=.returned (.int .i64 (l.length:Int))/\w=w':=by
 have c0:w.cell? ⟨gb,0,none⟩=some (.int .i64 (l.length:Int)):=(hb.cell 0).trans rfl;go_enter Tryz.func271,Tryz.ntmps271;go_wp2;go_ret;exact ⟨rfl,rfl⟩
theorem aIC {w:World} {gb:Nat} {l:List Bool} (hb:Bk w gb 254 (gK l)):Rd w w.heap.size 1 (some ⟨gb,1,none⟩) 2 ([w0 l,w1 l].map uvn):=by
 refine ⟨rfl,fun _=>⟨gb,1,rfl,hb.lt,fun j u hu=>?_⟩⟩;rw [hb.cell];rcases j with _ | _ | j;exact hu;exact hu
 · simp at hu
theorem yI (gb:Nat) (l:List Bool) (w:World) (hb:Bk w gb 254 (gK l)) (hl:l.length<=128):
 Calls Tryz.prog 291 #[.pointer (some ⟨gb,0,none⟩)] w fun e w'=>e=.returned (.int .i64 ((l.count true:Nat):Int))/\w=w':=by
 have hsum:(([w0 l,w1 l].map fun x=>bF x 64).sum)=l.count true:=by rw [<-aIc l hl];simp
 go_enter Tryz.func291,Tryz.ntmps291;go_wp2_with fail;refine (gS _ 2 2 _ [w0 l,w1 l] _ (aIC hb) (by intro n hn;simp at hn;rcases hn with rfl | rfl;exact lS l;exact lO l hl) oM).mono ?_;rintro e w' ⟨rfl,rfl⟩;rw [hsum];go_wp2;go_ret;exact ⟨rfl,rfl⟩
theorem ix0 (a b:Int) (w:World):(Instr.index 252 (.agg #[.int .u64 a,.int .u64 b]) (.int .i64 0)).run Tryz.prog w=.ok (.int .u64 a) w:=by kernel_rfl
theorem ix1 (a b:Int) (w:World):(Instr.index 252 (.agg #[.int .u64 a,.int .u64 b]) (.int .i64 1)).run Tryz.prog w=.ok (.int .u64 b) w:=by kernel_rfl
theorem yH (gb:Nat) (l:List Bool) (k:Nat) (w:World) (hb:Bk w gb 254 (gK l)) (hl:l.length<=128) (hk:k<=l.length):
 Calls Tryz.prog 237 #[.pointer (some ⟨gb,0,none⟩),.int .i64 (k:Int)] w fun e w'=>e=.returned (.int .i64 (((l.take k).count true:Nat):Int))/\Below w.heap.size w w':=by
 have hfin:=aIb l k hl hk;obtain ⟨n,hn⟩:=eqx l.length;obtain ⟨u0,hu0⟩:∃u,w0 l=u:=⟨_,rfl⟩;obtain ⟨u1,hu1⟩:∃u,w1 l=u:=⟨_,rfl⟩;have b0:u0 < 18446744073709551616:=by rw [<-hu0];exact lS l
 have b1:u1 < 18446744073709551616:=by rw [<-hu1];exact lO l hl
 have r0:uM u0 (k:Int)=bF u0 (min k 64):=by unfold uM;rw [zBr]
 have r1:uM u1 ((k:Int) - 64)=bF u1 (min (k - 64) 64):=by unfold uM;congr 2;omega
 rw [hu0,hu1] at hfin;have l0:=nE u0 (min k 64);have l1:=nE u1 (min (k - 64) 64);have c0:w.cell? ⟨gb,0,none⟩=some (.int .i64 (n:Int)):=by rw [<-hn];exact (hb.cell 0).trans rfl
 have c1:w.cell? ⟨gb,1,none⟩=some (.int .u64 (u0:Int)):=by rw [<-hu0];exact (hb.cell 1).trans rfl
 have c2:w.cell? ⟨gb,2,none⟩=some (.int .u64 (u1:Int)):=by rw [<-hu1];exact (hb.cell 2).trans rfl
 have hlt:=hb.lt;have hkn:k<=n:=oM;have hn128:n<=128:=oM;have m1:max (k:Int) 0=(k:Int):=oM;have m2:min (k:Int) (n:Int)=(k:Int):=oM;obtain ⟨Hfin,R0⟩:=hqq2 hfin r0;have k0:=ix0;have k1:=ix1;have R1:=lhd r1;clear hb hfin hu0 hu1 hn hk r0 r1;go_enter Tryz.func237,Tryz.ntmps237;go_wp2_with fail;go_loopw [5,14] (fun v i wr=>∃j:Nat,j<=2/\i=.int .i64 j/\v=.int .i64 (((if j=0 then 0 else if j=1 then bF u0 (min k 64) else (l.take k).count true):Nat):Int)/\Below w.heap.size w wr) (fun _ i _=>2 -(intOf i).toNat)
 case atStart=>exact ⟨0,by omega,rfl,rfl,Below.refl _ _⟩
 case round=>
  obtain ⟨j,hj,rfl,rfl,hb⟩:=hrel;have hsz:=hb.size;have d0:wr.cell? ⟨gb,0,none⟩=some (.int .i64 (n:Int)):=(hb.cell hlt).trans c0;rcases j with _ | _ | _ | j
  · clear c1 c2;simp only [if_true];go_wp2_with fail;refine (qW u0 (k:Int) b0 oM _).mono ?_;rintro e w' ⟨rfl,hb'⟩;rw [R0.out];have hB:=hb.trans (hb'.mono hsz);go_wp2_with fail;go_roundw
    case rel=>exact ⟨1,by omega,by go_num,by simp,hB⟩
    case measure=>simp [intOf]
  · clear c1 c2;simp only [zBi,Nat.one_ne_zero,if_false,if_true];go_wp2_with fail;refine (qW u1 ((k:Int) - 64) b1 oM _).mono ?_;rintro e w' ⟨rfl,hb'⟩;rw [R1.out];have hB:=hb.trans (hb'.mono hsz);have hsum:(((bF u0 (min k 64):Nat):Int)+((bF u1 (min (k - 64) 64):Nat):Int))=(((l.take k).count true:Nat):Int):=(by rw [<-Hfin.out];push_cast;rfl);go_wp2_with fail;go_roundw
    case rel=>exact ⟨2,by omega,by go_num,by first | rfl |(simp;done)| exact eB (by simpa using hsum),hB⟩
    case measure=>simp [intOf]
  · simp only [show ¬(0+1+1=0) by omega,show ¬(0+1+1=1) by omega,if_false];go_wp2;go_ret;exact ⟨rfl,hb⟩
  omega
end Go.Proofs.YtnhmjomhloainaaGreatDoor
namespace Go.Proofs.YtnhmjomhloainaaGreatDoor
theorem zO:(Tryz.prog.info? 3).map (fun i=>(i.zero,i.size,i.bytes))=some (some (.int .i64 0),1,8):=by kernel_rfl
end Go.Proofs.YtnhmjomhloainaaGreatDoor
namespace Go.Proofs.YtnhmjomhloainaaGreatDoor
open Go.RowKit Go
section
variable {P : Program} {ops : Array Oper} {Q : Exit -> Act -> World -> Prop} {md : Region.Mode}
def cF (n m:Nat):Array Bool:=((List.range m).map fun i=>decide (i < n)).toArray
theorem aAf (n m:Nat) (h:n<=m):(cF n m).toList.count false=m - n:=by
 unfold cF;rw [List.toList_toArray]
 induction m with
 | zero=>simp
 | succ m ih=>
   rw [List.range_succ,zAz,zCc];rcases zBe m n with hm | hm
   · have:n=m+1:=oM;subst this;have e:(List.map (fun i=>decide (i < m+1)) (List.range m)).count false=0:=(by rw [List.count_eq_zero];intro hc;obtain ⟨x,hx,h2⟩:=zAy.1 hc;have:=zCi.1 hx;simp at h2;omega);rw [e];simp
   rw [ih hm];have:¬(m < n):=oM;simp [this];omega
theorem cM {f:Nat} {listed:Array Bool} {a:Act} {w:World} (hr:Region.ready md ops listed= []) (hq:Q .normal a w):wpAny P md ops Q f listed a w:=by
 cases f with
 | zero=>exact ⟨hr,hq⟩
 | succ f=>exact ⟨fun _=>hq,fun i hi=>by rw [hr] at hi;cases hi⟩
theorem bZ {f:Nat} {listed:Array Bool} {a:Act} {w:World} {i:Nat} (hr:Region.ready md ops listed= [i]) (hq:wpOp P ops Q i (wpAny P md ops Q f (listed.setIfInBounds i true)) a w):wpAny P md ops Q (f+1) listed a w:=
 ⟨fun h=>(by rw [hr] at h;cases h),fun j hj=>(by rw [hr] at hj;cases List.mem_singleton.1 hj;exact hq)⟩
theorem tX (n:Nat) (C:World->Prop) (S:Nat->World->World->Prop) (U:Nat->World->Prop) (V:Nat->Value->World->Prop) (a0:Act)
 (W0:World) (hn:n<=ops.size) (hlaid:iA md ops a0.tmps.size=true) (htail:((List.range ops.size).all fun k=>decide (k < n)||(List.range n).all fun i=>upB md ops ops.size k i)=true) (hC0:C W0) (hU0:∀i,U i W0) (hC:∀j w w',j < n->C w->S j w w'->C w')
 (hU:∀i j w w',j < n->i≠j->upB md ops ops.size j i=false->U i w->C w->S j w w'->U i w')
 (hstab:∀i j v w w',j < n->i≠j->vO md ops i j=false->V i v w->C w->S j w w'->V i v w')
 (hstep:∀j o,j < n->ops[j]?=some o->dI P ops Q md C S U V a0 j o)
 (hend:∀a w f,C w->a.tmps.size=a0.tmps.size->a.defers=a0.defers->
  (∀t,(∀(k:Nat) (p:Oper),k < n->ops[k]?=some p->p.dst≠some t)->a.tmps.getD t undef=a0.tmps.getD t undef)->
  (∀i o,i < n->ops[i]?=some o->∃v,(∀d,o.dst=some d->a.tmps.getD d undef=v)/\V i v w)->wpAny P md ops Q (ops.size - n+f) (cF n ops.size) a w):
 wpAny P md ops Q ops.size (Array.replicate ops.size false) a0 W0:=by
 have none_ready:∀listed:Array Bool,listed.size=ops.size->Region.ready md ops listed= []->∀i,i < ops.size->listed.getD i false=true:=by
  intro listed hl hr i
  induction i using Nat.strongRecOn with
  | _ i ih=>
    intro hi;cases hc:listed.getD i false with
    | true=>rfl
    | false=>
      exfalso;have hm:i∈Region.ready md ops listed:=(by refine mem_ready.2 ⟨?_,ops[i],zAq hi,fun e he hb=>?_⟩;have hi':i < listed.size:=oM;simp [hi'] at hc⊢;exact hc;have:=(dR hlaid (zAq hi)).1 e he hb;exact ih e.on this oM);rw [hr] at hm;cases hm
 have main:∀fuel listed a w,listed.size=ops.size->listed.toList.count false<=fuel->Loose7 md ops C U V a0 listed a w->(∀k,n<=k->listed.getD k false=false)->wpAny P md ops Q fuel listed a w:=by
  intro fuel
  induction fuel with
  | zero=>
    intro listed a w hl hc h ht0
    have hall:∀i,i < ops.size->listed.getD i false=true:=by
        intro i hi;have hi':i < listed.size:=oM;cases hv:listed.getD i false with
        | true=>rfl
        | false=>
          exfalso;have:false∈listed.toList:=(by simp [hi'] at hv;exact hv ▸(by simp));have:=List.count_pos_iff.2 this;omega
    have hnn:n=ops.size:=by
        rcases zBe n ops.size with h1 | h1
        · have h2:=hall n h1;rw [ht0 n nL] at h2;cases h2
        omega
    have he:listed=cF n ops.size:=by
        apply Array.ext
        · simp [cF,hl]
        intro i h1 h2;have h3:=hall i oM;simp [h1] at h3;simp [cF,h3];omega
    have h3:=hend a w 0 h.world h.size h.defers (fun t ht=>h.old t fun k p hp hd=>absurd hd (ht k p (by have:=(zAh.1 hp).1;omega) hp)) fun i o hi ho=>h.val i o ho (hall i (zAh.1 ho).1);rw [<-he,<-hnn,Nat.sub_self] at h3;exact h3
  | succ fuel ih=>
    intro listed a w hl hc h ht0;by_cases hall:∀i,i < n->listed.getD i false=true
    · have he:listed=cF n ops.size:=by
       apply Array.ext
       · simp [cF,hl]
       intro i h1 h2;rcases zBe i n with h4 | h4;have h3:=hall i h4;simp [h1] at h3;simp [cF,h3];exact h4;have h3:=ht0 i h4;simp [h1] at h3;simp [cF,h3];omega
      have hcount:ops.size - n<=fuel+1:=(by rw [he,aAf _ _ hn] at hc;exact hc);have h3:=hend a w (fuel+1 -(ops.size - n)) h.world h.size h.defers (fun t ht=>h.old t fun k p hp hd=>by
       rcases zBe k n with h4 | h4;exact absurd hd (ht k p h4 hp)
       · exact ht0 k h4) fun i o hi ho=>h.val i o ho (hall i hi)
      rw [<-he,show ops.size - n+(fuel+1 -(ops.size - n))=fuel+1 by omega] at h3;exact h3
    refine ⟨fun hr=>absurd (fun i hi=>none_ready listed hl hr i oM) hall,fun j hj=>?_⟩;obtain ⟨h0,o,ho,haft⟩:=mem_ready.1 hj;have hlt:j < ops.size:=(zAh.1 ho).1;have hjl:j < listed.size:=oM;have h0':listed.getD j false=false:=(by simp [hjl] at h0⊢;exact h0);have hjn:j < n:=(by rcases zBe j n with h4 | h4;exact h4;exfalso;refine hall fun i hi=>?_;have h5:=zBf.1 htail j (zCi.2 hlt);have h6:¬(j < n):=oM;simp only [h6,decide_false,Bool.false_or] at h5;exact iZ h.shut _ j i o ho haft (zBf.1 h5 i (zCi.2 hi)));refine hstep j o hjn ho a w h.world (h.pre j o ho h0') h.size h.defers (fun t ht=>h.old t fun k p hp hd=>?_) (fun e he hb p d hp hd=>by obtain ⟨v,h1,h2⟩:=h.val e.on p hp (haft e he hb);rw [h1 d hd];exact h2) _ fun v w' hS hV=>?_
    · rcases tN ht hp hd with rfl |⟨e,he,hb,heq⟩;exact h0'
      · cases hk:listed.getD k false with
        | false=>rfl
        | true=>
          have:=h.shut k p hp hk e he hb;rw [heq,h0'] at this;cases this
    · refine ih _ _ _ (by simpa using hl) ?_ ?_ (fun k hk=>by rw [getD_set_ne false (by omega:j≠k)];exact ht0 k hk);have hv:listed.toList[j]'(by simpa using hjl)=false:=(by simp [hjl] at h0'⊢;exact h0');rw [Array.toList_setIfInBounds,List.count_set (by simpa using hjl),hv];simp;have hm:false∈listed.toList:=hv ▸ zBj _;have:=List.count_pos_iff.2 hm;rw [<-Array.count_toList];omega
      · have hsz:(a.put o.dst v).tmps.size=a0.tmps.size:=by
          rw [<-h.size];cases o.dst with
          | none=>rfl
          | some d=>simp [Act.put]
        refine ⟨hC j w w' hjn h.world hS,fun i p hp hi=>?_,hsz,?_,fun t ht=>?_,fun i p hp hi=>?_,fun k p hp hk e he hb=>?_⟩
        · have hji:i≠j:=fun e=>by rw [e,bI _ _ hjl] at hi;cases hi
          rw [getD_set_ne false hji.symm] at hi;refine hU i j w w' hjn hji ?_ (h.pre i p hp hi) h.world hS;cases hup:upB md ops ops.size j i with
          | false=>rfl
          | true=>
            have:=iZ h.shut _ j i o ho haft hup;rw [hi] at this;cases this
        · rw [<-h.defers];cases o.dst <;> rfl
        · have hne:o.dst≠some t:=fun hd=>by have:=ht j o ho hd;rw [bI _ _ hjl] at this;cases this
          have hold:=h.old t fun k p hp hd=>by
           have:=ht k p hp hd;cases hk:listed.getD k false with
           | false=>rfl
           | true=>
             by_cases hjk:j=k
             · subst hjk;rw [h0'] at hk;cases hk
             · rw [getD_set_ne false hjk,hk] at this;cases this
          rw [<-hold];cases hod:o.dst with
          | none=>rfl
          | some d=>
            have hdt:d≠t:=fun h=>hne (by rw [hod,h]);simp [Act.put,zAm,hdt]
        · rcases eH _ _ _ hi with rfl | hi1
          · rw [ho] at hp;injection hp with hp;subst hp;refine ⟨v,fun d hd=>?_,hV⟩;have hdl:=((dR hlaid ho).2 d hd).1;rw [hd];have:d < a.tmps.size:=(by rw [h.size];exact hdl);simp [Act.put,zAm,this]
          · by_cases hij:i=j
            · subst hij;rw [h0'] at hi1;cases hi1
            obtain ⟨u,hu,hv⟩:=h.val i p hp hi1
            have haf:vO md ops i j=false:=by
              cases hc:vO md ops i j with
              | false=>rfl
              | true=>
                exfalso;unfold vO at hc;rw [hp] at hc;obtain ⟨e,he,h2⟩:=List.any_eq_true.1 hc;simp only [zBd,zCp] at h2;have:=h.shut i p hp hi1 e (Array.mem_toList_iff.1 he) h2.1;rw [h2.2,h0'] at this;cases this
            refine ⟨u,fun d hd=>?_,hstab _ _ _ _ _ hjn hij haf hv h.world hS⟩;rw [<-hu d hd];cases hod:o.dst with
            | none=>rfl
            | some d'=>
              have hdt:d'≠d:=fun h=>hij (((dR hlaid ho).2 d' hod).2 i p hp (h ▸ hd));simp [Act.put,zAm,hdt]
        rcases eH _ _ _ hk with rfl | hk;rw [ho] at hp;injection hp with hp;subst hp;have h1:=haft e he hb;by_cases hje:k=e.on;rw [<-hje];exact bI _ _ hjl _;rw [getD_set_ne false hje];exact h1;have h1:=h.shut k p hp hk e he hb;by_cases hje:j=e.on;rw [<-hje];exact bI _ _ hjl _;rw [getD_set_ne false hje];exact h1
 refine main _ _ _ _ (by simp) (by simp) ⟨hC0,fun j _ _ _=>hU0 j,rfl,rfl,fun _ _=>rfl,fun i o ho hi=>?_,fun k p hp hk=>?_⟩ (fun k hk=>by
  rw [zAm];rcases zBe k ops.size with h | h
  · simp [h]
  · rw [Array.getElem?_eq_none (by simpa using h)];rfl)
 · have hlt:i < ops.size:=(zAh.1 ho).1;simp [hlt] at hi
 · have hlt:k < ops.size:=(zAh.1 hp).1;simp [hlt] at hk
theorem aAV (n:Nat) (ds:List Nat) (C:World->Prop) (S:Nat->World->World->Prop) (U:Nat->World->Prop) (V:Nat->Value->World->Prop) (a0:Act)
 (W0:World) (hds:(ops.toList.take n).filterMap (·.dst)=ds) (hn:n<=ops.size) (hlaid:iA md ops a0.tmps.size=true) (htail:((List.range ops.size).all fun k=>decide (k < n)||(List.range n).all fun i=>upB md ops ops.size k i)=true) (hC0:C W0) (hU0:∀i,U i W0) (hC:∀j w w',j < n->C w->S j w w'->C w')
 (hU:∀i j w w',j < n->i≠j->upB md ops ops.size j i=false->U i w->C w->S j w w'->U i w')
 (hstab:∀i j v w w',j < n->i≠j->vO md ops i j=false->V i v w->C w->S j w w'->V i v w')
 (hstep:∀j o,j < n->ops[j]?=some o->dI P ops Q md C S U V a0 j o)
 (hend:∀(ev:Operand->Value) w f,C w->(∀i d,i < n->((ops[i]?).bind (·.dst))=some d->V i (ev (.tmp d)) w)->wpAny P md ops Q (ops.size - n+f) (cF n ops.size) (aO ev ds a0) w):
 wpAny P md ops Q ops.size (Array.replicate ops.size false) a0 W0:=by
 refine tX n C S U V a0 W0 hn hlaid htail hC0 hU0 hC hU hstab hstep fun a w f hS hsz hdf hold hval=>?_;have h1:=hend a.eval w f hS fun i d hi hd=>by
  cases ho:ops[i]? with
  | none=>rw [ho] at hd;cases hd
  | some o=>
    rw [ho] at hd;obtain ⟨v,h1,h2⟩:=hval i o hi ho;have:=h1 d hd;change V i (a.tmps.getD d undef) w;rw [this];exact h2
 rw [<-mK a a0 ds hsz hdf fun t ht=>hold t fun k p hk hp hd=>ht ?_] at h1;exact h1;rw [<-hds];refine List.mem_filterMap.2 ⟨p,?_,hd⟩;have hk2:(ops.toList.take n)[k]?=some p:=(by rw [zBs,zBx hk,Array.getElem?_toList];exact hp);exact zAd hk2
theorem cJ {j:Nat} {o:Oper} {a:Act} {w:World} {K:Act->World->Prop} (ho:ops[j]?=some o) (hg:o.guard=none) (h:Oper.upon P o a K Q ((execOp a.eval o).run P w)):wpOp P ops Q j K a w:=by
 unfold wpOp;simp only [ho];have hw:Region.wanted o (yielded ops a.tmps)=true:=by unfold Region.wanted;rw [hg]
 rw [zBx hw];exact .inl h
end
end Go.Proofs.YtnhmjomhloainaaGreatDoor
namespace Go.Proofs.YtnhmjomhloainaaGreatDoor
open Go.RowKit
def aE2 (S:World->World->Prop) (p:Value->World->Prop):Prop:=∀v w w',p v w->S w w'->p v w'
theorem cA (S:World->World->Prop) (c:Value):aE2 S (is c):=fun _ _ _ h _=>h
theorem bS (S:World->World->Prop):aE2 S dJ:=fun _ _ _ _ _=>trivial
theorem cY {S:World->World->Prop} {l:List (Value->World->Prop)} (h:∀p∈l,aE2 S p):∀i v w w',Vs l i v w->S w w'->Vs l i v w':=by
 intro i v w w' hp hs;unfold Vs at hp⊢;rw [zAb] at hp⊢;rcases hl:l[i]? with _ | p;rw [hl] at hp;exact hp;rw [hl] at hp;exact h p (zAd hl) v w w' hp hs
end Go.Proofs.YtnhmjomhloainaaGreatDoor
