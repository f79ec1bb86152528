/- Lemmas of the walk. Conditions: each its own. -/
import Derived.Test.YthldmddkfbijhaaGreatDoorPsr25
import Derived.Test.YthldmddkfbijhaaGreatDoorPsr33
import Derived.Test.YthldmddkfbijhaaGreatDoorProg
import Derived.Test.YthldmddkfbijhaaGreatDoorShl
import Derived.Test.YthldmddkfbijhaaGreatDoorShi
import Derived.Test.YthldmddkfbijhaaGreatDoorSht
set_option linter.all false
set_option maxRecDepth 100000
set_option maxHeartbeats 4000000
namespace Go.Proofs.YthldmddkfbijhaaGreatDoor
section
open Go.RowKit
theorem aD0 (w:World) (o:Obj) (C:Array Value) (n c:Nat):(convert 26 26 (.slice (some ⟨w.heap.size+1,0,none⟩) n c)).run Tryz.prog ((w.alloc o).alloc (.cells C 5))=.ok (.slice (some ⟨w.heap.size+1,0,none⟩) n c) ((w.alloc o).alloc (.cells C 5 (C.size,C.size+1))):=by
 have:=tG (w.alloc o) C n c;rw [World.size_alloc] at this;exact this
theorem aBm {t:List UInt8} {rs:List Nat} (h:IsSuf (aG t) rs):(aE (aG t) rs).length=t.length+1:=by rw [bU,h.len,aT]
end
section
open Go.RowKit Go.Shelf
theorem aAm (Bw gl:Nat) (L:List Nat) (n:Nat) (A0:Option Addr) (m0 c0 B:Nat) (ss:List Sl) (p:List UInt8) (N:Nat) (hT:iE ss=p) (hN:p.length=N) (w:World) (h:LvW w Bw gl L) (hn:L.length=n+1) (hl:n<=900) (hL:∀x∈L,x < 257) (hr0:Rd w B 1 A0 m0 (ss.map slV)) (hss:∀s∈ss,Rd w B 1 s.A s.n (s.l.map bv)) (hB:B<=w.heap.size) (hm:m0<=1000000) (hp:N<=1000000):
 Calls Tryz.prog 76 #[gl,.slice A0 m0 c0] w fun e w'=>e=.returned (.int .i64 (((gY L p).2 -(gY L p).1:Nat):Int))/\VB Bw w w':=by
 have hr:=sX Bw gl L n A0 m0 c0 B ss p N hT hN w h hn hl hL hr0 hss hB hm hp;have hfo:=aFE L p.reverse (0,L.length) (zAp _) nL;change (gY L p).1<=(gY L p).2/\(gY L p).2<=L.length at hfo;obtain ⟨lo,hlo⟩:=eqx ((gY L p).1);obtain ⟨hi,hhi⟩:=eqx ((gY L p).2);rw [hlo,hhi] at hr hfo⊢;have h1:=hfo.1;have h2:hi<=1000:=oM;have e1:IntKind.i64.wrap ((hi:Int) -(lo:Int))=((hi - lo:Nat):Int):=by rw [IntKind.wrap_i64];omega
 clear h hr0 hss hlo hhi hfo hL;go_enter Tryz.func76,Tryz.ntmps76;go_wp2_with fail;refine hr.mono ?_;rintro e w' ⟨rfl,hv⟩;go_wp2_with fail;go_ret;exact ⟨fL oM,hv⟩
end
section
open Go.RowKit
theorem aBI (Bw gl:Nat) (t:List UInt8) (A0:Option Addr) (m0 c0 B:Nat) (ss:List Sl) (p:List UInt8) (hT:iE ss=p) (w:World) (h:TxtAt w Bw gl t) (hr0:Rd w B 1 A0 m0 (ss.map slV)) (hss:∀s∈ss,Rd w B 1 s.A s.n (s.l.map bv)) (hB:B<=w.heap.size) (hm:m0<=1000000) (hp:p.length<=1000000):
 Calls Tryz.prog 76 #[gl,.slice A0 m0 c0] w fun e w'=>e=.returned (.int .i64 ((occ (aG t) (dF p):Nat):Int))/\VB Bw w w':=by
 obtain ⟨rs,h1,h2,h3⟩:=h;have:=aAm Bw gl _ t.length A0 m0 c0 B ss p p.length hT rfl w h2 (aBm h1) oM (dM (eT t)) hr0 hss hB hm hp;rw [aGH h1] at this;exact this
theorem aEk (q s:List UInt8):q.isPrefixOf s=true↔∀(i:Nat) (c:UInt8),q[i]?=some c->s[i]?=some c:=by
 rw [List.isPrefixOf_iff_prefix];constructor;rintro ⟨r,rfl⟩ i c h;rw [zAn (by obtain ⟨h1,_⟩:=zAc.1 h;exact h1)];exact h
 · intro h
   induction q generalizing s with
   | nil=>exact List.nil_prefix
   | cons a q ih=>
     cases s with
     | nil=>exact absurd (h 0 a rfl) (by simp)
     | cons b s=>
       have h0:=h 0 a rfl;simp at h0;subst h0;obtain ⟨r,hr⟩:=ih s fun i c hc=>by simpa using h (i+1) c (by simpa using hc)
       exact ⟨r,by rw [List.cons_append,hr]⟩
theorem aCF (t q:List UInt8) (p:Nat):tK (aG t) (dF q) p=q.isPrefixOf (t.drop p):=by
 rw [Bool.eq_iff_iff,aEl,aEk];constructor;intro h i c hc;rw [zBt];exact h i c hc;intro h i c hc;have:=h i c hc;rw [zBt] at this;exact this
theorem aEE (t q:List UInt8):∀k,t.length+1 - q.length<=k->k<=t.length+1->iB t q k=fM t q:=by
 intro k hk
 induction k with
 | zero=>
   intro _;have:t.length+1 - q.length=0:=oM;rw [fM,this]
 | succ k ih=>
   intro h1;rcases Nat.eq_or_lt_of_le hk with e | e
   · rw [fM,e]
   · rw [aAJ,ih oM oM];cases hp:q.isPrefixOf (t.drop k) with
     | false=>rfl
     | true=>
       exfalso;have:=(List.isPrefixOf_iff_prefix.1 hp).length_le;rw [zAw] at this;omega
theorem rF (t q:List UInt8):gG t q=fM t q:=by
 rw [<-aEE t q (t.length+1) oM nL];unfold gG iB;congr 1;funext i;exact aCF t q i
theorem aEm (t q:List UInt8):(gG t q).length=occ (aG t) (dF q):=by
 unfold gG occ;rw [List.countP_eq_length_filter,aT]
theorem aIb {w:World} {g:Nat} {t:TypeId} {cs:Array Value} {n:Nat} (h:Bk w g t cs) (hs:cs.size=n):Rd w w.heap.size 1 (some ⟨g,0,none⟩) n cs.toList:=by
 refine ⟨by simp [hs],fun _=>⟨_,0,rfl,h.lt,fun j u hu=>?_⟩⟩;rw [zBi,h.cell];simpa using hu
theorem zX (most:Int) (rate:Int) (w:World) (hm:most < 0∨most > 2147483648):
 Calls Tryz.prog 18 #[.int .i64 most,.int .i64 rate] w fun e w'=>e=.returned (.tuple #[.pointer none,.int .i64 1])/\w=w':=by
 by_cases c:most < 0
 · have n1:decide (most < 0)=true:=zBz c;go_enter Tryz.func18,Tryz.ntmps18;go_wp2_with fail;go_ret2;exact ⟨rfl,rfl⟩
 · have n1:decide (most < 0)=false:=zBy c;have n2:decide (most > 2147483648)=true:=zBz oM;go_enter Tryz.func18,Tryz.ntmps18;go_wp2_with fail;go_ret2;exact ⟨rfl,rfl⟩
theorem aDB (rate:Int) (A:Option Addr) (n c:Nat) (w:World) (hr:rate < 1∨rate > 64):
 Calls Tryz.prog 35 #[.int .i64 rate,.slice A n c] w fun e w'=>e=.returned (.tuple #[.pointer none,.int .i64 1])/\w=w':=by
 by_cases c1:rate < 1
 · have n1:decide (rate < 1)=true:=zBz c1;go_enter Tryz.func35,Tryz.ntmps35;go_wp2_with fail;go_ret2;exact ⟨rfl,rfl⟩
 · have n1:decide (rate < 1)=false:=zBy c1;have n2:decide (rate > 64)=true:=zBz oM;go_enter Tryz.func35,Tryz.ntmps35;go_wp2_with fail;go_ret2;exact ⟨rfl,rfl⟩
theorem zW (most:Nat) (rate:Int) (w:World) (hm:most<=2147483648) (hr:rate < 1∨rate > 64):
 Calls Tryz.prog 18 #[(most:Int),.int .i64 rate] w fun e w'=>e=.returned (.tuple #[.pointer none,.int .i64 1])/\w=w':=by
 have hnew:=aDB rate none 0 0 w hr;have n1:¬((most:Int) < 0):=oM;have n2:¬((most:Int) > 2147483648):=oM;have n3:decide ((most:Int) > 2147483648)=false:=zBy n2;have Hnew:=lhd hnew;clear hnew hr;go_enter Tryz.func18,Tryz.ntmps18;go_wp2_with fail;refine Hnew.out.mono ?_;rintro e w1 ⟨rfl,rfl⟩;go_wp2_with fail;go_ret2;exact ⟨rfl,rfl⟩
theorem aCj {t:List UInt8} {a b:Nat} {c d:UInt8} (ha:t[a]?=some c) (hb:t[b]?=some d):sufLt (aG t) a b↔c.toNat < d.toNat∨(c.toNat=d.toNat/\sufLt (aG t) (a+1) (b+1)):=by
 rw [iK,pE t ha,pE t hb];constructor;rintro (h |⟨h1,h2⟩);exact .inl oM;exact .inr ⟨by omega,h2⟩;rintro (h |⟨h1,h2⟩);exact .inl oM;exact .inr ⟨by omega,h2⟩
theorem aDZ {t:List UInt8} {b:Nat} (hb:b < t.length):sufLt (aG t) t.length b:=by
 rw [iK,aI7,pE t (zAa hb)];exact .inl oM
theorem aDY {t:List UInt8} {a:Nat} (ha:a < t.length):¬sufLt (aG t) a t.length:=by
 rw [iK,aI7,pE t (zAa ha)];rintro (h |⟨h,_⟩);omega;omega
def aJe (t:List UInt8) (a b:Nat) (w:World) (e:Ending) (w':World):Prop:=∃r:Bool,e=.returned (.bool r)/\(r=true↔sufLt (aG t) a b)/\∃q,w'=w.drewN q
theorem aID (t:List UInt8) (a b n:Nat) (w:World) (hn:t.length=n) (hn4:n<=1000) (ha:a<=n) (hb:b<=n) (hab:a≠b):
 Calls Tryz.prog 125 #[.string ⟨t.toArray⟩,(a:Int),(b:Int)] w (aJe t a b w):=by
 have z1:(⟨t.toArray⟩:ByteArray).size=n:=(pC t).trans hn;have Hn:=lhd hn;clear hn;go_enter Tryz.func125,Tryz.ntmps125;go_wp2_with fail;go_loopw [1,2] (fun x y wr=>∃a' b' q:Nat,a'<=n/\b'<=n/\a'≠b'/\x=.int .i64 (a':Int)/\y=.int .i64 (b':Int)/\(sufLt (aG t) a b↔sufLt (aG t) a' b')/\wr=w.drewN q) (fun x _ _=>n -(intOf x).toNat)
 case atStart=>exact ⟨a,b,0,ha,hb,hab,rfl,rfl,Iff.rfl,rfl⟩
 case round=>
  obtain ⟨a',b',q,ha',hb',hne,rfl,rfl,hiff,rfl⟩:=hrel;have Hiff:=lhd hiff;clear hiff;by_cases hlt:a' < n/\b' < n
  · obtain ⟨h1,h2⟩:=hlt;have ga:t[a']?=some (t[a']'(by rw [Hn.out];exact h1)):=zAa _;have gb:t[b']?=some (t[b']'(by rw [Hn.out];exact h2)):=zAa _;generalize t[a']'(by rw [Hn.out];exact h1)=c at ga;generalize t[b']'(by rw [Hn.out];exact h2)=d at gb;have hs:=aCj ga gb;have ia:=tH ga;have ib:=tH gb;have Hs:=lhd hs;have h1I:(a':Int) < (n:Int):=oM;have h2I:(b':Int) < (n:Int):=oM;clear hs ga gb;by_cases hcd:c.toNat=d.toNat
    · have hcI:(c.toNat:Int)=(d.toNat:Int):=oM;rw [hcI] at ia;have hab':sufLt (aG t) a b↔sufLt (aG t) (a'+1) (b'+1):=(by rw [Hiff.out,Hs.out];constructor;rintro (h | h);omega;exact h.2;exact fun h=>.inr ⟨hcd,h⟩);have Hab':=lhd hab';clear hcI hab' hcd;go_wp2_with fail;go_quiet (fail);go_wp2_with fail;go_roundw
      case rel=>exact ⟨a'+1,b'+1,_,by omega,by omega,by omega,by go_num,by go_num,Hab'.out,rfl⟩
      case measure=>simp [intOf];omega
    · have hcI:¬(c.toNat:Int)=(d.toNat:Int):=oM;have hr:decide (c.toNat < d.toNat)=true↔sufLt (aG t) a b:=(by rw [Hiff.out,Hs.out,zCa];constructor;exact fun h=>.inl h;rintro (h | h);exact h;exact absurd h.1 hcd);have Hr:=lhd hr;clear hr hcd;go_wp2_with fail;go_quiet (fail);go_wp2_with fail;go_quiet (fail);go_wp2_with fail;go_ret;exact ⟨decide (c.toNat < d.toNat),bX (by simp),Hr.out,_,by rw [World.drewN_drewN,World.drewN_drewN]⟩
  · have hr:decide ((b':Int) < (a':Int))=true↔sufLt (aG t) a b:=(by rw [Hiff.out,zCa];by_cases h1:a' < n;obtain rfl:b'=n:=(by have:¬b' < n:=fun h=>hlt ⟨h1,h⟩;omega);constructor;intro h;omega;intro h;have h3:=aDY (t:=t) (a:=a') (by rw [Hn.out];exact h1);rw [Hn.out] at h3;exact absurd h h3;obtain rfl:a'=n:=oM;have h3:=aDZ (t:=t) (b:=b') (by rw [Hn.out];omega);rw [Hn.out] at h3;exact ⟨fun _=>h3,fun _=>by omega⟩);have Hr:=lhd hr;clear hr;by_cases h1:a' < n
    · have h1I:(a':Int) < (n:Int):=oM;have h2I:¬(b':Int) < (n:Int):=(by have:¬b' < n:=fun h=>hlt ⟨h1,h⟩;omega);clear hlt;go_wp2_with fail;go_ret;exact ⟨decide ((b':Int) < (a':Int)),bX (by simp),Hr.out,q,rfl⟩
    · have h1I:¬(a':Int) < (n:Int):=oM;clear hlt;go_wp2_with fail;go_ret;exact ⟨decide ((b':Int) < (a':Int)),bX (by simp),Hr.out,q,rfl⟩
theorem aLc (A:Option Addr) (n c k s B:Nat) (L:List Nat) (w:World) (hr:Rd w B 1 A n (L.map sv)) (hB:B<=w.heap.size) (hnc:n<=c) (hk:k<=n) (hn:n<=1000):
 Calls Tryz.prog 126 #[.slice A n c,(k:Int),(s:Int)] w fun e w'=>∃A' c',e=.returned (.slice A' (n+1) c')/\Made w' w.heap.size 3 1 A' (n+1) c' ((L.take k++s::L.drop k).map sv)/\Below w.heap.size w w':=by
 obtain ⟨i0,hi0,hz0,hz1,hz2⟩:=info_parts gC;have hsz8:∀w,(sizeOf 3).run Tryz.prog w=.ok 1 w:=fun w=>by simp [sizeOf,typeInfo,hi0,hz1]
 have hcut1:=hr.cut_hi0 (cap:=c) hk;have hcut2:=hr.cut (cap:=c) hk hnc;rw [zBl,<-List.map_take] at hcut1;rw [zBl,<-List.map_drop] at hcut2;have kh:=mI (P:=Tryz.prog) 22 3 1 Tryz.underlying22 hsz8 A n c k oM;have kl:=iL (P:=Tryz.prog) 22 3 1 Tryz.underlying22 hsz8 A n c k hk;obtain ⟨Hc1,Hc2,Kl⟩:=hqq3 hcut1 hcut2 kl;clear hcut1 hcut2 hr kl;go_enter Tryz.func126,Tryz.ntmps126;go_wp2_with (at_builtin;refine aX _ rfl (.tmp 8) (.tmp 11) _ rfl w.heap.size 3 i0 (.int .i64 0) 1 8 Tryz.underlying22 hi0 hz0 hz1 hz2 rfl dC (.slice (some ⟨w.heap.size,0,none⟩) 0 0) 0 [] rfl (jW w 3 1) w.heap.size (dP A c 0 1) k c _ rfl ((Hc1.out.mono hB).alloc nL _) (qD _) (by unfold maxLen;omega) oM (by simp) ?_;intro v1 w1 hown1 hg1 hat1);have hB1:=aZ ((Below.refl w.heap.size w).alloc nL _) (jW w 3 1) hg1 (by simp);rw [zBi,List.nil_append] at hown1;obtain ⟨A1,c1,rfl,hm1⟩:=aS hown1;have hlt1:∀b,(Value.slice A1 k c1).ownBlock=some b->w.heap.size<=b/\b < w1.heap.size:=fun b hb=>hm1.own.lt b hb;have hs1:=hB1.size;obtain ⟨Hb1,Hown,Hlt⟩:=hqq3 hB1 hown1 hlt1;clear hown1 hg1 hat1 hB1 hm1 hlt1;go_wp2_with fail;refine wp_region_any kR ?_;refine cH 7 [13,14,15,16,17,18,19] (fun b=>(Value.slice A1 k c1).ownBlock=some b) 3 [3] (fun w2=>w2.ownsRow w.heap.size 3 1 (.slice A1 k c1) k ((L.take k).map sv)) (fun v w2=>w2.ownsRow w.heap.size 3 1 v (k+1) ((L.take k).map sv++ [.int .i64 (s:Int)])) [is (.slice A1 k c1),is (s:Int),nS (fun b=>(Value.slice A1 k c1).ownBlock=some b) 3 #[(s:Int)] fun g=>.slice (some ⟨g,0,none⟩) 1 1,cR,is (.slice A n c),is (k:Int),is (.slice (dP A c k 1) (n - k) (c - k))] _ _ rfl dC kR kR kR (Hown.out) (fun w2 w3 h _ hg=>aP h hg) (fun _ _ _ h1 k=>aP h1 k) tA3 ?_ ?_
 · refine bM ?_;refine pH3 7 (.slice A1 k c1) ?_;refine pH3 2 (.int .i64 (s:Int)) ?_;refine sC3 (fun _ w5 hS _ _ _ _ hval _ _ _ hK=>?_) ?_
   · replace hS:Keep (fun b=>(Value.slice A1 k c1).ownBlock=some b) w1 w5:=kD hS;have e14:_=_:=hval 1 14 kR rfl;go_simp;exact hK _ _ (aJ (bR.alloc nL _)) ⟨_,rfl,Bk.new _ _ _,fun h=>by have:=(Hlt.out _ h).2;have:=hS.size;omega⟩
   refine sC3 (fun ev w5 hS hU _ _ _ hval _ _ ha hK=>?_) ?_;replace hS:Keep (fun b=>(Value.slice A1 k c1).ownBlock=some b) w1 w5:=kD hS;have hpre:=hU rfl;have e13:_=_:=hval 0 13 kR rfl;have p15:(nS (fun b=>(Value.slice A1 k c1).ownBlock=some b) 3 #[(s:Int)] fun g=>.slice (some ⟨g,0,none⟩) 1 1) (ev (.tmp 15)) w5:=hval 2 15 kR rfl;obtain ⟨g15,e15,hb15,hn15⟩:=p15;subst ha;have hw5:w.heap.size<=w5.heap.size:=zAk hs1 hS.size;refine dS w5 (.tmp 13) (.tmp 15) _ rfl w.heap.size 3 i0 (.int .i64 0) 1 8 Tryz.underlying22 hi0 hz0 hz1 hz2 rfl dC (.slice A1 k c1) k ((L.take k).map sv) e13 hpre w5.heap.size (some ⟨g15,0,none⟩) 1 1 [.int .i64 (s:Int)] e15 (aEd hb15) (by simp [Value.oneCell']) (by unfold maxLen;omega) oM hw5 ?_;intro v6 w6 hown6 hg6 hat6;exact hK _ _ (aW ⟨hg6.os,hg6.tape,hg6.output,hg6.size,fun k hk hn=>hg6.block k hk (fun e=>hn e.symm)⟩) hown6;refine pH3 0 (.slice A n c) ?_;refine pH3 1 (.int .i64 (k:Int)) ?_;refine sC3 (fun _ _ _ _ _ _ _ hval _ _ _ hK=>?_) ?_
   · have e17:_=_:=hval 4 17 kR rfl;have e18:_=_:=hval 5 18 kR rfl;have kl:=Kl.out;go_simp;exact kq hK rfl
   exact aC
 · intro ev w6 f hS hval;replace hS:Keep (fun b=>(Value.slice A1 k c1).ownBlock=some b) w1 w6:=kD hS;have p16:(fun v w2=>w2.ownsRow w.heap.size 3 1 v (k+1) ((L.take k).map sv++ [.int .i64 (s:Int)])) (ev (.tmp 16)) w6:=hval 3 16 dC rfl;have e19:ev (.tmp 19)=.slice (dP A c k 1) (n - k) (c - k):=hval 6 19 dC rfl;simp only [aI,zq1,zq2,Act.put,zq3,zq4,zq5];rw [e19];clear hval;obtain ⟨A8,c8,e16,_,_⟩:=aV p16;rw [e16] at p16⊢;have hb6:Below w.heap.size w w6:=Hb1.out.trans (hS.to_below hs1 (fun b hb h=>by have:=(Hlt.out _ h).1;omega));have hr6:=(Hc2.out.mono hB).below hb6;have Hown6:=lhd p16;have hs6:=hb6.size;obtain ⟨Hb6,Hr6⟩:=hqq2 hb6 hr6;clear p16 hb6 hr6;change wpAny Tryz.prog Region.Mode.any _ _ (2+f) (bV 7 9) _ w6;rw [show 2+f=f+1+1 by omega];refine aQ (f:=f+1) (i:=7) kR ?_;refine bW rfl rfl ?_;refine dS w6 (.tmp 16) (.tmp 19) _ rfl w.heap.size 3 i0 (.int .i64 0) 1 8 Tryz.underlying22 hi0 hz0 hz1 hz2 rfl dC (.slice A8 (k+1) c8) (k+1) ((L.take k).map sv++ [.int .i64 (s:Int)]) rfl Hown6.out w6.heap.size (dP A c k 1) (n - k) (c - k) ((L.drop k).map sv) rfl (Hr6.out.mono hs6) (qD _) (by unfold maxLen;omega) oM hs6 ?_;intro v7 w7 hown7 hg7 hat7;have hb7:=aZ Hb6.out Hown6.out hg7 hs6;have hnk:k+1+(n - k)=n+1:=oM;rw [hnk] at hown7;have hL7:(L.take k).map sv++ [.int .i64 (s:Int)]++(L.drop k).map sv=(L.take k++s::L.drop k).map sv:=(by simp [sv]);rw [hL7] at hown7;obtain ⟨A9,c9,rfl,hm9⟩:=aS hown7;obtain ⟨Hm9,Hb7⟩:=hqq2 hm9 hb7;clear hown7 hg7 hat7 hb7 hL7 hnk hm9;refine aQ (f:=f) (i:=8) kR ?_;refine bW rfl rfl ?_;generalize hK:wpAny Tryz.prog _ _ _ f _=K5;go_simp;subst hK;refine bK kR ?_;go_wp2;go_ret;exact ⟨A9,c9,rfl,Hm9.out,Hb7.out⟩
structure Part (l:List Nat) (x j:Nat) (L:List Nat):Prop where
 perm:L.Perm (List.range' x j)
 sorted:L.Pairwise (sufLt l)
theorem Part.len {l L:List Nat} {x j:Nat} (h:Part l x j L):L.length=j:=by simpa using h.perm.length_eq
theorem Part.mem {l L:List Nat} {x j p:Nat} (h:Part l x j L) (hp:p∈L):x<=p/\p < x+j:=by
 have:=h.perm.mem_iff.1 hp;rw [List.mem_range'_1] at this;exact this
theorem Part.rel {l L:List Nat} {x j i k:Nat} (h:Part l x j L) (hik:i < k) (hk:k < L.length):sufLt l (L[i]' oM) L[k]:=zAr.1 h.sorted i k oM hk hik
theorem Part.put {l L:List Nat} {x j lo:Nat} (h:Part l (x+1) j L) (hx:x < l.length) (hj:x+1+j<=l.length) (hlo:lo<=L.length) (h1:∀i (hi:i < L.length),i < lo->sufLt l L[i] x) (h2:∀i (hi:i < L.length),lo<=i->¬sufLt l L[i] x):
 Part l x (j+1) (L.take lo++x::L.drop lo):=by
 constructor;rw [List.range'_succ];refine List.perm_middle.trans (List.Perm.cons x ?_);rw [zAu];exact h.perm;have hs:=h.sorted;rw [<-zAu lo L,List.pairwise_append] at hs;rw [List.pairwise_append];refine ⟨hs.1,List.pairwise_cons.2 ⟨fun b hb=>?_,hs.2.1⟩,fun a ha b hb=>?_⟩;obtain ⟨i,hi,rfl⟩:=zBo.1 hb;rw [zAw] at hi;rw [List.getElem_drop];have hm:=h.mem (zBj (l:=L) (n:=lo+i) oM);rcases sufLt.tri hx (by omega:L[lo+i]' oM < l.length) oM with h3 | h3;exact h3;exact absurd h3 (h2 (lo+i) oM oM);rcases List.mem_cons.1 hb with rfl | hb;obtain ⟨i,hi,rfl⟩:=zBo.1 ha;rw [zAj] at hi;rw [List.getElem_take];exact h1 i oM oM;exact hs.2.2 a ha b hb
def uW (t:List UInt8) (n:Nat) (w:World) (e:Ending) (w':World):Prop:=∃A' c' L,e=.returned (.slice A' (n+1) c')/\IsSuf (aG t) L/\Made w' w.heap.size 3 1 A' (n+1) c' (L.map sv)/\Below w.heap.size w w'
theorem uV (t:List UInt8) (n:Nat) (w:World) (hn:t.length=n) (hn4:n<=900):
 Calls Tryz.prog 67 #[.string ⟨t.toArray⟩] w (uW t n w):=by
 have z1:(⟨t.toArray⟩:ByteArray).size=n:=(pC t).trans hn;have hl:(aG t).length=n+1:=by rw [aT,hn]
 obtain ⟨Hn,Hl⟩:=hqq2 hn hl;clear hn hl;go_enter Tryz.func67,Tryz.ntmps67;go_wp2_with fail;go_loopw [3,4] (fun v p wr=>∃(j:Nat) (L:List Nat) (A:Option Addr) (c:Nat),j<=n+1/\v=.slice A j c/\p=.int .i64 ((n:Int) -(j:Int))/\Part (aG t) (n+1 - j) j L/\Made wr w.heap.size 3 1 A j c (L.map sv)/\Below w.heap.size w wr) (fun _ p _=>(intOf p+1).toNat)
 case atStart=>exact ⟨0, [],none,0,by omega,rfl,by simp,⟨by simp,List.Pairwise.nil⟩,⟨World.ownsRow_nil _ _ _ _,Rd.nil _ _ _ _,zAs _,by unfold maxLen;omega⟩,Below.refl _ _⟩
 case round=>
  obtain ⟨j,L,A,c,hj,rfl,rfl,hpart,hmade,hb⟩:=hrel;obtain ⟨Hmade,Hb⟩:=hqq2 hmade hb;clear hmade hb;by_cases hlt:j<=n
  · obtain ⟨x,hx⟩:=eqx (n - j);rw [show n+1 - j=x+1 by omega] at hpart;have hxI:(n:Int) -(j:Int)=(x:Int):=oM;rw [hxI];have hx0:(0:Int)<=(x:Int):=oM;have hLl:=hpart.len;obtain ⟨Hpart,HLl,Hx,HxI⟩:=hqq4 hpart hLl hx hxI;clear hpart hLl hx hxI;obtain ⟨W,hW⟩:∃W,W=wr:=⟨_,rfl⟩;subst hW;go_wp2_with fail;go_loopw [5,6] (fun a b wr=>∃lo hi q:Nat,lo<=hi/\hi<=j/\a=.int .i64 (lo:Int)/\b=.int .i64 (hi:Int)/\(∀i (h:i < L.length),i < lo->sufLt (aG t) L[i] x)/\(∀i (h:i < L.length),hi<=i->¬sufLt (aG t) L[i] x)/\wr=W.drewN q) (fun a b _=>(intOf b - intOf a).toNat)
    case atStart=>exact ⟨0,j,0,by omega,by omega,rfl,rfl,fun i h h2=>by omega,fun i h h2=>by have:=HLl.out;omega,rfl⟩
    case round=>
        obtain ⟨lo,hi,q,hlh,hhj,rfl,rfl,h1,h2,rfl⟩:=hrel;obtain ⟨H1,H2⟩:=hqq2 h1 h2;clear h1 h2;by_cases hlo:lo < hi
        · obtain ⟨m,hm⟩:=eqx ((lo+hi)/ 2);have hloI:(lo:Int) < (hi:Int):=oM;have e1:IntKind.i64.wrap ((lo:Int)+(hi:Int))=(lo:Int)+(hi:Int):=(by rw [IntKind.wrap_i64];omega);have e2:((lo:Int)+(hi:Int)).tdiv 2=(m:Int):=(by rw [<-hm];exact (Int.ofNat_tdiv (lo+hi) 2).symm);have e3:IntKind.i64.wrap (m:Int)=(m:Int):=(by rw [IntKind.wrap_i64];omega);have hmj:m < j:=oM;have hml:m < L.length:=(by rw [HLl.out];exact hmj);obtain ⟨b,off,u,hA,hbl,hu,hc⟩:=(Hmade.out.rd.drewN q).get hmj;subst hA;rw [zAf,zAa hml] at hu;cases hu;unfold sv at hc;have hmem:=Hpart.out.mem (zBj hml);obtain ⟨y,hy⟩:=eqx (L[m]);rw [hy] at hc hmem;have Hy:=lhd hy;have Hc:=hc;clear hy hc;have hmlo:lo<=m:=oM;have hmhi:m < hi:=oM;clear hm;go_wp2_with fail;refine (aID t y x n _ Hn.out oM (by have:=Hx.out;omega) (by have:=Hx.out;omega) oM).mono ?_;rintro e w5 ⟨r,rfl,hr,q2,rfl⟩;have Hr:=lhd hr;clear hr;cases r with
          | true=>
            go_wp2_with fail;go_roundw
            case rel=>refine ⟨m+1,hi,q+q2,by omega,hhj,by go_num,rfl,fun i h hi2=>?_,H2.out,rfl⟩;have hy2:sufLt (aG t) L[m] x:=(by rw [Hy.out];exact Hr.out.1 (by first | rfl | trivial));rcases zBe i m with h3 | h3;exact (Hpart.out.rel h3 hml).trans hy2;obtain rfl:i=m:=oM;exact hy2
            case measure=>simp [intOf];omega
          | false=>
            go_wp2_with fail;go_roundw
            case rel=>refine ⟨lo,m,q+q2,by omega,by omega,rfl,by go_num,H1.out,fun i h hi2 h4=>?_,rfl⟩;have hy2:¬sufLt (aG t) L[m] x:=(by rw [Hy.out];intro h5;have:=Hr.out.2 h5;cases this);rcases zBe m i with h3 | h3;exact hy2 ((Hpart.out.rel h3 h).trans h4);obtain rfl:i=m:=oM;exact hy2 h4
            case measure=>simp [intOf];omega
        · obtain rfl:lo=hi:=oM;have hput:=Hpart.out.put (by rw [Hl.out];have:=Hx.out;omega) (by rw [Hl.out];have:=Hx.out;omega) (by rw [HLl.out];exact hhj) H1.out H2.out;have Hput:=lhd hput;have hbq:Below W.heap.size W (W.drewN q):=below_drewN bR q;have hm2:=Hmade.out.below hbq;obtain ⟨Hm2,Hbq⟩:=hqq2 hm2 hbq;clear hput hm2 hbq hlo;go_wp2_with fail;refine (aLc A j c lo x (W.drewN q).heap.size L (W.drewN q) Hm2.out.rd nL Hm2.out.cap hhj oM).mono ?_;rintro e w5 ⟨A9,c9,rfl,hm9,hb9⟩;have hbw:=Hb.out.trans ((Hbq.out.trans (hb9.mono Hbq.out.size)).mono Hb.out.size);have hm10:Made w5 w.heap.size 3 1 A9 (j+1) c9 ((L.take lo++x::L.drop lo).map sv):=⟨bF hm9.own (zAk Hb.out.size Hbq.out.size),hm9.rd,hm9.cap,hm9.max⟩;obtain ⟨Hbw,Hm10⟩:=hqq2 hbw hm10;clear hbw hm10 hm9 hb9;have e4:IntKind.i64.wrap ((x:Int) - 1)=(n:Int) -((j+1:Nat):Int):=(by rw [IntKind.wrap_i64];have:=HxI.out;omega);go_wp2_with fail;go_roundw
          case rel=>exact ⟨j+1,_,A9,c9,by omega,rfl,rfl,by rw [show n+1 -(j+1)=x by have:=Hx.out;omega];exact Hput.out,Hm10.out,Hbw.out⟩
          case measure=>have:=Hx.out;simp [intOf];omega
  · obtain rfl:j=n+1:=oM;have hlast:¬(0:Int)<=(n:Int) -((n+1:Nat):Int):=oM
    have hsuf:IsSuf (aG t) L:=⟨by
        have:=hpart.perm;rw [show n+1 -(n+1)=0 by omega] at this;rw [Hl.out,List.range_eq_range'];exact this,hpart.sorted⟩
    have Hsuf:=lhd hsuf;clear hsuf hpart hlt;go_wp2_with fail;go_ret;exact ⟨A,c,L,rfl,Hsuf.out,Hmade.out,Hb.out⟩
def uY (t:List UInt8) (n:Nat) (w:World) (e:Ending) (w':World):Prop:=∃A' c' rs,e=.returned (.slice A' (n+1) c')/\IsSuf (aG t) rs/\Made w' w.heap.size 3 1 A' (n+1) c' ((aE (aG t) rs).map sv)/\Below w.heap.size w w'
theorem uX (t:List UInt8) (n:Nat) (w:World) (hn:t.length=n) (hn4:n<=900):
 Calls Tryz.prog 68 #[.string ⟨t.toArray⟩] w (uY t n w):=by
 obtain ⟨i0,hi0,hz0,hz1,hz2⟩:=info_parts gC;have hr:=uV t n w hn hn4;unfold uW at hr;have Hn:=lhd hn;have z1:(⟨t.toArray⟩:ByteArray).size=n:=(pC t).trans hn;clear hn;unfold uY;go_enter Tryz.func68,Tryz.ntmps68;go_wp2_with fail;refine hr.mono ?_;rintro e w1 ⟨A1,c1,rs,rfl,hs,hm1,hb1⟩;have hrl:rs.length=n+1:=by rw [hs.len,aT,Hn.out]
 obtain ⟨L,hL⟩:=eqx (aE (aG t) rs);have hLl:L.length=n+1:=by rw [<-hL,bU,hrl]
 obtain ⟨Hs,Hm1,Hb1,Hrl,HL,HLl⟩:=hqq6 hs hm1 hb1 hrl hL hLl;clear hr hs hm1 hb1 hrl hL hLl;go_wp2_with fail;go_loopw [4,5] (fun v i wr=>∃k:Nat,k<=n+1/\i=.int .i64 (k:Int)/\wr.ownsRow w1.heap.size 3 1 v k ((L.take k).map sv)/\Below w1.heap.size w1 wr) (fun _ i _=>n+1 -(intOf i).toNat)
 case atStart=>exact ⟨0,zAp _,rfl,World.ownsRow_nil _ _ _ _,Below.refl _ _⟩
 case round=>
  obtain ⟨k,hk,rfl,hown,hb⟩:=hrel;have hsz:=hb.size;by_cases hlt:k < n+1
  · have hkr:k < rs.length:=(by rw [Hrl.out];exact hlt);obtain ⟨p,hp⟩:∃p,rs[k]?=some p:=⟨_,zAa hkr⟩;have hpn:p<=n:=(by have:=Hs.out.lt (zAd hp);rw [aT,Hn.out] at this;omega);obtain ⟨b1,o1,rfl,hb1,hc1⟩:=(Hm1.out.rd.below hb).2 oM;have d1:wr.cell? ⟨b1,o1+k,none⟩=some (.int .i64 (p:Int)):=hc1 k _ (by rw [zAf,hp];rfl);have hLk:L[k]?=some (bL (aG t) p):=(by rw [<-HL.out];unfold aE;rw [zAf,hp];rfl);have hnext:L.take (k+1)=L.take k++ [bL (aG t) p]:=(by rw [zAv,hLk];rfl);obtain ⟨Hown,Hb,Hp⟩:=hqq3 hown hb hp;clear hown hb hp hc1 hLk hkr;rcases p with _ | q
    · have hpv:bL (aG t) 0=0:=(by rw [bQ (by rw [aT];omega),aT,zBb];exact (eF t).last);rw [hpv] at hnext;have Hnext:=lhd hnext;clear hnext hpv;have d2:wr.cell? ⟨b1,o1+k,none⟩=some (.int .i64 0):=d1;clear d1;go_wp2_with (at_builtin;refine bP _ rfl (.tmp 19) (.tmp 20) _ rfl w1.heap.size 3 i0 (.int .i64 0) 1 8 Tryz.underlying22 hi0 hz0 hz1 hz2 rfl dC _ k _ rfl Hown.out rfl rfl (by simp [Value.oneCell']) (by unfold maxLen;omega) oM hsz ?_;intro v2 w2 hown2 hg2 hs2 hat2);have hb2:=aZ Hb.out Hown.out hg2 hsz;clear hg2 hat2;go_roundw
      case rel=>exact ⟨k+1,by omega,by go_num,by rw [Hnext.out,zAz];exact hown2,hb2⟩
      case measure=>simp [intOf];omega
    · obtain ⟨c,hc⟩:∃c,t[q]?=some c:=⟨_,zAa (by rw [Hn.out];omega)⟩;have hpv:bL (aG t) (q+1)=c.toNat+1:=(by rw [bE (by rw [aT,Hn.out];omega)];unfold aG dF;rw [zAb,zAn (by rw [zBc,Hn.out];omega),zAf,hc];rfl);rw [hpv] at hnext;have Hnext:=lhd hnext;have g1:(((q+1:Nat):Int)==0)=false:=(by rw [zCb];omega);have g2:IntKind.i64.wrap (((q+1:Nat):Int) - 1)=(q:Int):=(by rw [IntKind.wrap_i64];omega);have ks:=tH hc;have hcl:=c.toNat_lt;have g3:IntKind.i64.wrap (c.toNat:Int)=(c.toNat:Int):=(by rw [IntKind.wrap_i64];omega);have g4:wrap64 ((c.toNat:Int)+1)=((c.toNat+1:Nat):Int):=(by rw [dI oM oM];omega);clear hnext hpv hc;generalize q+1=p at d1 g1 g2;go_wp2_with (at_builtin;refine bP _ rfl (.tmp 22) (.tmp 32) _ rfl w1.heap.size 3 i0 (.int .i64 0) 1 8 Tryz.underlying22 hi0 hz0 hz1 hz2 rfl dC _ k _ rfl Hown.out rfl rfl (by simp [Value.oneCell']) (by unfold maxLen;omega) oM hsz ?_;intro v2 w2 hown2 hg2 hs2 hat2);have hb2:=aZ Hb.out Hown.out hg2 hsz;clear hg2 hat2;go_roundw
      case rel=>exact ⟨k+1,by omega,by go_num,by rw [Hnext.out,zAz];exact hown2,hb2⟩
      case measure=>simp [intOf];omega
  · obtain rfl:k=n+1:=oM;rw [zAg (by rw [HLl.out];exact zAs _)] at hown;obtain ⟨A,c,rfl,hm⟩:=aS hown;obtain ⟨Hm,Hb⟩:=hqq2 hm hb;clear hown hm hb;go_wp2_with fail;go_ret;have hz:=Hb1.out.size;exact ⟨A,c,rs,rfl,Hs.out,by rw [HL.out];exact ⟨bF Hm.out.own hz,Hm.out.rd,Hm.out.cap,Hm.out.max⟩,Hb1.out.trans (Hb.out.mono hz)⟩
end
end Go.Proofs.YthldmddkfbijhaaGreatDoor
