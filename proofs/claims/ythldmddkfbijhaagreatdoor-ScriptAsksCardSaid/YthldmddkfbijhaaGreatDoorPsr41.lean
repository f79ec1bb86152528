/- Lemmas of the walk. Conditions: each its own. -/
import Derived.Test.YthldmddkfbijhaaGreatDoorPsr33
import Derived.Test.YthldmddkfbijhaaGreatDoorPsr36
import Derived.Test.YthldmddkfbijhaaGreatDoorPsr38
import Derived.Test.YthldmddkfbijhaaGreatDoorProg
import Derived.Test.YthldmddkfbijhaaGreatDoorSht
import Derived.Test.YthldmddkfbijhaaGreatDoorShl
import Derived.Test.YthldmddkfbijhaaGreatDoorShi
import Derived.Test.YthldmddkfbijhaaGreatDoorShs
set_option linter.all false
set_option maxRecDepth 100000
set_option maxHeartbeats 4000000
namespace Go.Proofs.YthldmddkfbijhaaGreatDoor
open Go.RowKit
theorem aHm (g gp:Nat) (AD:Option Addr) (nd cd:Nat) (p k most:Int) (T:List UInt8) (w:World) (hg:Bk w g 185 #[gp,.int .i64 most]) (hp:PlS w gp T):
 Calls Tryz.prog 139 #[g,bT 8 p k AD nd cd] w fun e w'=>fY gp T ⟨0,0, [], []⟩ w w' e:=by
 unfold bT;go_enter Tryz.func139,Tryz.ntmps139;go_wp2;have hb:=((Below.refl w.heap.size w).alloc nL (.cells #[.int .i64 8,.int .i64 p,.int .i64 k,.slice AD nd cd] 46)).alloc (by simp) (.cells #[.int .i64 0,.int .i64 0,.slice none 0 0,.slice none 0 0] 50);have hbk:Bk ((w.alloc (.cells #[.int .i64 8,.int .i64 p,.int .i64 k,.slice AD nd cd] 46)).alloc (.cells #[.int .i64 0,.int .i64 0,.slice none 0 0,.slice none 0 0] 50)) (w.heap.size+1) 50 #[.int .i64 0,.int .i64 0,.slice none 0 0,.slice none 0 0]:=by simpa using Bk.new (w.alloc (.cells #[.int .i64 8,.int .i64 p,.int .i64 k,.slice AD nd cd] 46)) 50 #[.int .i64 0,.int .i64 0,.slice none 0 0,.slice none 0 0]
 exact iD (s:=w.heap.size+1) (A1:=none) (c1:=0) (A2:=none) (c2:=0) (.inl rfl) rfl hbk (Keep.of_below hb) (bB _ _ _) (bB _ _ _) (hp.keep hb)
theorem aLf (g gp:Nat) (AD:Option Addr) (nd cd:Nat) (p k most:Int) (T:List UInt8) (w:World) (hg:Bk w g 185 #[gp,.int .i64 most]) (hp:PlS w gp T) (hT:T.length<=549755813888):
 Calls Tryz.prog 139 #[g,bT 4 p k AD nd cd] w fun e w'=>fY gp T ⟨0,(T.length:Int), [], []⟩ w w' e:=by
 have Hp:=lhd hp;obtain ⟨A,c,hb,hr,hnc,hne⟩:=hp;obtain ⟨n,hn⟩:=eqx T.length;rw [hn] at hb hT⊢;have hgl:=hg.lt;have hpl:=hb.lt;have c1:w.cell? ⟨g,0,none⟩=some (.pointer (some ⟨gp,0,none⟩)):=(hg.cell 0).trans rfl;have c2:w.cell? ⟨gp,0,none⟩=some (.slice A n c):=(hb.cell 0).trans rfl;clear hb hr hne hn hg;unfold bT;go_enter Tryz.func139,Tryz.ntmps139;go_wp2;have hb:=((Below.refl w.heap.size w).alloc nL (.cells #[.int .i64 4,.int .i64 p,.int .i64 k,.slice AD nd cd] 46)).alloc (by simp) (.cells #[.int .i64 0,(n:Int),.slice none 0 0,.slice none 0 0] 50);have hbk:Bk ((w.alloc (.cells #[.int .i64 4,.int .i64 p,.int .i64 k,.slice AD nd cd] 46)).alloc (.cells #[.int .i64 0,(n:Int),.slice none 0 0,.slice none 0 0] 50)) (w.heap.size+1) 50 #[.int .i64 0,(n:Int),.slice none 0 0,.slice none 0 0]:=by simpa using Bk.new (w.alloc (.cells #[.int .i64 4,.int .i64 p,.int .i64 k,.slice AD nd cd] 46)) 50 #[.int .i64 0,(n:Int),.slice none 0 0,.slice none 0 0]
 exact iD (s:=w.heap.size+1) (A1:=none) (c1:=0) (A2:=none) (c2:=0) (.inl rfl) rfl hbk (Keep.of_below hb) (bB _ _ _) (bB _ _ _) (Hp.out.keep hb)
theorem aJj (g gp:Nat) (AD:Option Addr) (nd cd:Nat) (kind p k most:Int) (T:List UInt8) (w:World) (hg:Bk w g 185 #[gp,.int .i64 most]) (hp:PlS w gp T) (hk:kind < 1∨8 < kind):
 Calls Tryz.prog 139 #[g,bT kind p k AD nd cd] w fun e w'=>fY gp T ⟨1,0, [], []⟩ w w' e:=by
 unfold bT;have t1:(kind==1)=false:=by rw [zCb];omega
 have t2:(kind==2)=false:=by rw [zCb];omega
 have t3:(kind==3)=false:=by rw [zCb];omega
 have t4:(kind==4)=false:=by rw [zCb];omega
 have t5:(kind==5)=false:=by rw [zCb];omega
 have t6:(kind==6)=false:=by rw [zCb];omega
 have t7:(kind==7)=false:=by rw [zCb];omega
 have t8:(kind==8)=false:=by rw [zCb];omega
 clear hk;go_enter Tryz.func139,Tryz.ntmps139;go_wp2;have hb:=((Below.refl w.heap.size w).alloc nL (.cells #[.int .i64 kind,.int .i64 p,.int .i64 k,.slice AD nd cd] 46)).alloc (by simp) (.cells #[.int .i64 1,.int .i64 0,.slice none 0 0,.slice none 0 0] 50);have hbk:Bk ((w.alloc (.cells #[.int .i64 kind,.int .i64 p,.int .i64 k,.slice AD nd cd] 46)).alloc (.cells #[.int .i64 1,.int .i64 0,.slice none 0 0,.slice none 0 0] 50)) (w.heap.size+1) 50 #[.int .i64 1,.int .i64 0,.slice none 0 0,.slice none 0 0]:=by simpa using Bk.new (w.alloc (.cells #[.int .i64 kind,.int .i64 p,.int .i64 k,.slice AD nd cd] 46)) 50 #[.int .i64 1,.int .i64 0,.slice none 0 0,.slice none 0 0]
 exact iD (s:=w.heap.size+1) (A1:=none) (c1:=0) (A2:=none) (c2:=0) (.inl rfl) rfl hbk (Keep.of_below hb) (bB _ _ _) (bB _ _ _) (hp.keep hb)
theorem aLg (g gp:Nat) (AD:Option Addr) (nd cd B:Nat) (kind p k most:Int) (T D:List UInt8) (T2:List UInt8) (r:Told) (h2:doM T most kind p k D=(T2,r)) (w:World) (hg:Bk w g 185 #[gp,.int .i64 most]) (hp:PlS w gp T)
 (hd:Rd w B 1 AD nd (D.map bv)) (hB:B<=w.heap.size) (hdne:0 < nd->∀a,AD=some a->a.block≠gp) (hgne:g≠gp) (hT:T.length<=549755813888) (hD:nd<=549755813888) (hpb:-9223372036854775808<=p/\p<=9223372036854775807) (hkb:-9223372036854775808<=k/\k<=9223372036854775807) (hmb:0<=most/\most<=2147483648):
 Calls Tryz.prog 139 #[g,bT kind p k AD nd cd] w fun e w'=>fY gp T2 r w w' e:=by
 have hDl:D.length=nd:=by simpa using hd.1
 unfold doM at h2;by_cases k1:kind=1
 · subst k1;rw [zBx rfl] at h2;cases hh:eD T.length p 0 with
   | false=>
     rw [zBx hh] at h2;cases h2;exact aB5 g gp AD nd cd B p k most T D w hg hp hd hB hdne hgne hT hD hpb hkb hmb hh
   | true=>
     rw [zBw (by rw [hh];decide)] at h2;by_cases hf:most -(T.length:Int) < (D.length:Int);rw [zBx hf] at h2;cases h2;exact aDH g gp AD nd cd B p k most T D w hg hp hd hB hdne hgne hT hD hpb hkb hmb hh (by rw [<-hDl];exact hf);rw [zBw hf] at h2;cases h2;obtain ⟨a,b,rfl,hb,hab⟩:=kX hh;exact aHo g gp AD nd cd B a k most T D w hg hp hd hB hdne hgne hT hD hpb hkb hmb hh (by rw [<-hDl];omega)
 rw [zBw k1] at h2;by_cases k2:kind=2
 · subst k2;rw [zBx rfl] at h2;cases hh:eD T.length p k with
   | false=>
     rw [zBx hh] at h2;cases h2;exact aB6 g gp AD nd cd B p k most T D w hg hp hd hB hdne hgne hT hD hpb hkb hmb hh
   | true=>
     rw [zBw (by rw [hh];decide)] at h2;cases h2;obtain ⟨a,b,rfl,rfl,hab⟩:=kX hh;exact aHp g gp AD nd cd B a b most T D w hg hp hd hB hdne hgne hT hD hpb hkb hmb hh
 rw [zBw k2] at h2;by_cases k5:kind=5
 · subst k5;rw [zBx rfl] at h2;cases hh:eD T.length p k with
   | false=>
     rw [zBx hh] at h2;cases h2;exact aAp g gp AD nd cd B p k most T D w hg hp hd hB hdne hgne hT hD hpb hkb hmb hh
   | true=>
     rw [zBw (by rw [hh];decide)] at h2;cases h2;obtain ⟨a,b,rfl,rfl,hab⟩:=kX hh;exact aFg g gp AD nd cd B a b most T D w hg hp hd hB hdne hgne hT hD hpb hkb hmb hh
 rw [zBw k5] at h2;by_cases k3:kind=3
 · subst k3;rw [zBx rfl] at h2;rw [hDl] at h2;cases hh:eD T.length p nd with
   | false=>
     rw [zBx hh] at h2;cases h2;exact aB4 g gp AD nd cd B p k most T D w hg hp hd hB hdne hgne hT hD hpb hkb hmb hh
   | true=>
     rw [zBw (by rw [hh];decide)] at h2;cases h2;obtain ⟨a,b,rfl,hb,hab⟩:=kX hh;exact aHl g gp AD nd cd B a k most T D w hg hp hd hB hdne hgne hT hD hpb hkb hmb hh
 rw [zBw k3] at h2;by_cases k4:kind=4;subst k4;rw [zBx rfl] at h2;cases h2;exact aLf g gp AD nd cd p k most T w hg hp hT;rw [zBw k4] at h2;by_cases k6:kind=6;subst k6;rw [zBx rfl] at h2;cases h2;exact aJk g gp AD nd cd B p k most T D w hg hp hd hB hdne hgne hT hD hpb hkb hmb;rw [zBw k6] at h2;by_cases k7:kind=7;subst k7;rw [zBx rfl] at h2;cases h2;exact aHn g gp AD nd cd B p k most T D w hg hp hd hB hdne hgne hT hD hpb hkb hmb;rw [zBw k7] at h2;by_cases k8:kind=8;subst k8;rw [zBx rfl] at h2;cases h2;exact aHm g gp AD nd cd p k most T w hg hp;rw [zBw k8] at h2;cases h2;exact aJj g gp AD nd cd kind p k most T w hg hp oM
def StpsAt (w:World) (B:Nat):List Value->List Sp->Prop
 | xs, []=>xs= []
 | xs,s::L=>∃A n c ys,xs=.int .i64 s.kind::.int .i64 s.p::.int .i64 s.k::.slice A n c::ys/\DataAt w B A n c s.D/\StpsAt w B ys L
theorem StpsAt.keep {w w':World} {B:Nat} (k:∀g cs,B<=g->Bk w g 5 cs->Bk w' g 5 cs):∀ {L:List Sp} {xs:List Value},StpsAt w B xs L->StpsAt w' B xs L
 | [],_,h=>h
 | _::_,_,⟨A,n,c,ys,e,hd,h⟩=>⟨A,n,c,ys,e,hd.keep k,StpsAt.keep k h⟩
theorem StpsAt.below {w w':World} {B:Nat} {L:List Sp} {xs:List Value} (h:StpsAt w B xs L) (k:Below w.heap.size w w'):StpsAt w' B xs L:=h.keep fun g cs _ hb=>hb.below k hb.lt
theorem StpsAt.grown {w w':World} {B b sz n:Nat} {v:Value} {ys:List Value} {L:List Sp} {xs:List Value} (h:StpsAt w B xs L) (ho:w.ownsRow b 46 sz v n ys) (hg:w.grownBy w' v.ownBlock):StpsAt w' B xs L:=
 h.keep fun g cs _ hb=>(hg.block g hb.lt (aY ho hb dC)).trans hb
theorem DataAt.grown {w w':World} {B b sz n m c:Nat} {v:Value} {ys:List Value} {A:Option Addr} {D:List UInt8} (h:DataAt w B A m c D) (ho:w.ownsRow b 46 sz v n ys) (hg:w.grownBy w' v.ownBlock):DataAt w' B A m c D:=
 h.keep fun g cs _ hb=>(hg.block g hb.lt (aY ho hb dC)).trans hb
theorem DataAt.keepF {F:Nat->Prop} {w w':World} {B n c:Nat} {A:Option Addr} {D:List UInt8} (h:DataAt w B A n c D) (k:Keep F w w') (hF:∀b,F b->b < B):DataAt w' B A n c D:=
 h.keep fun g cs hg hb=>k.bk hb (fun f=>by have:=hF g f;omega)
theorem StpsAt.snoc {w:World} {B:Nat} {s:Sp} {A:Option Addr} {n c:Nat} (hd:DataAt w B A n c s.D):∀ {L:List Sp} {xs:List Value},StpsAt w B xs L->StpsAt w B (xs++ [.int .i64 s.kind,.int .i64 s.p,.int .i64 s.k,.slice A n c]) (L++ [s])
 | [],_,h=>by have h':=h;subst h';exact ⟨A,n,c, [],rfl,hd,rfl⟩
 | _::_,_,⟨A',n',c',ys,e,hd',h⟩=>⟨A',n',c',ys++_,by rw [e];rfl,hd',StpsAt.snoc hd h⟩
theorem lK {w:World} {g sz:Nat} {e:TypeId} {cs:Array Value} (h:Bk w g e cs) (hs:cs.size=sz):Rd w w.heap.size sz (some ⟨g,0,none⟩) 1 cs.toList:=by
 refine ⟨by simp [hs],fun _=>⟨g,0,rfl,h.lt,fun i u hu=>?_⟩⟩;rw [zBi,h.cell i];rw [<-hu];simp
theorem aHN (k x y:UInt8) (A:Option Addr) (n c:Nat):∀u∈(fB k x y A n c).toList,u.oneCell'=true:=by
 intro u hu;simp [fB] at hu;rcases hu with rfl | rfl | rfl | rfl <;> rfl
theorem aF1:(Tryz.prog.info? 46).map (fun i=>(i.zero.map (·.cells.size),i.size,i.bytes))=some (some 4,4,48):=by kernel_rfl
theorem wM:∃i0 z0,Tryz.prog.info? 46=some i0/\i0.zero=some z0/\i0.size=4/\i0.bytes=48/\z0.cells.size=4:=by
 have h:=aF1;cases hi:Tryz.prog.info? 46 with
 | none=>rw [hi] at h;cases h
 | some i0=>
   rw [hi] at h;cases hz:i0.zero with
   | none=>simp [hz] at h
   | some z0=>
     simp [hz] at h;exact ⟨i0,z0,rfl,hz,h.2.1,h.2.2,h.1⟩
def nI (l:List UInt8) (k:Nat):List Sp:=(List.range k).map (aD3 l)
theorem wQ (l:List UInt8) (k:Nat):nI l (k+1)=nI l k++ [aD3 l k]:=by
 unfold nI;rw [List.range_succ,zAz];rfl
def kO (w:World) (l:List UInt8) (e:Ending) (w':World):Prop:=
 ∃v xs,e=.returned v/\w'.ownsRow w.heap.size 46 4 v (l.length / 3) xs/\StpsAt w' w.heap.size xs (nI l (l.length / 3))/\Below w.heap.size w w'
theorem tV (A:Option Addr) (m c:Nat) (l:List UInt8) (w:World) (hr:Rd w w.heap.size 1 A m (l.map bv)) (hm:m<=100000) (hc:m<=c):
 Calls Tryz.prog 31 #[.slice A m c] w (kO w l):=by
 obtain ⟨i0,z0,hi0,hz0,hz1,hz2,hz3⟩:=wM;have hlm:l.length=m:=by simpa using hr.1
 obtain ⟨Hlm,hr0⟩:=hqq2 hlm hr;clear hr hlm;go_enter Tryz.func31,Tryz.ntmps31;go_wp2_with fail;go_loopw [0,3] (fun b v wr=>∃(k n' c':Nat) (A':Option Addr) (xs:List Value),b=.slice A' n' c'/\n'+3*k=m/\n'<=c'/\Rd wr w.heap.size 1 A' n' ((l.drop (3*k)).map bv)/\wr.ownsRow w.heap.size 46 4 v k xs/\StpsAt wr w.heap.size xs (nI l k)/\Below w.heap.size w wr) (fun b _ _=>match b with | .slice _ n _=>n | _=>0)
 case atStart=>exact ⟨0,m,c,A, [],rfl,by omega,hc,by simpa using hr0.out,World.ownsRow_nil _ _ _ _,rfl,Below.refl _ _⟩
 case round=>
  obtain ⟨k,n',c',A',xs,rfl,hnk,hnc,hrd,hown,hst,hb⟩:=hrel;by_cases h3:3<=n'
  · obtain ⟨bk,off,rfl,hbB,hcell⟩:=hrd.2 oM;have hx:∀j,j < 3->∃x,l[3*k+j]?=some x:=fun j hj=>⟨_,zAa (by rw [Hlm.out];omega)⟩;obtain ⟨x0,hx0⟩:=hx 0 oM;obtain ⟨x1,hx1⟩:=hx 1 oM;obtain ⟨x2,hx2⟩:=hx 2 oM;have d0:wr.cell? ⟨bk,off+0,none⟩=some (bv x0):=hcell 0 _ (by rw [zAf,zBt,hx0];rfl);have d1:wr.cell? ⟨bk,off+1,none⟩=some (bv x1):=hcell 1 _ (by rw [zAf,zBt,hx1];rfl);have d2:wr.cell? ⟨bk,off+2,none⟩=some (bv x2):=hcell 2 _ (by rw [zAf,zBt,hx2];rfl);have hsp:aD3 l k=aA3 x0 x1 x2:=(by unfold aD3;rw [zAb,zAb,zAb,show 3*k=3*k+0 from rfl,hx0,show 3*k+0+1=3*k+1 from rfl,hx1,show 3*k+0+2=3*k+2 from rfl,hx2];rfl);have hns:=wQ l k;rw [hsp] at hns;have hcut:=(hrd.cut (k:=3) (cap:=c') h3 hnc);rw [<-List.map_drop,List.drop_drop] at hcut;obtain ⟨Hcut,Hns⟩:=hqq2 hcut hns;have hF:∀b,u3.ownBlock=some b->b < wr.heap.size:=fun b hb'=>(hown.lt _ hb').2;have hF2:∀b,u3.ownBlock=some b->w.heap.size<=b:=fun b hb'=>(hown.lt _ hb').1;have hszr:=hb.size;have hbk:bk < wr.heap.size:=oM;have hbF:¬u3.ownBlock=some bk:=fun h=>by have:=hF2 _ h;omega
    obtain ⟨Hown,Hst,Hb⟩:=hqq3 hown hst hb;obtain ⟨L,hL⟩:=eqx (nI l k);rw [hL] at Hns Hst;obtain ⟨HF,HF2,Hbf,N1⟩:=hqq4 hF hF2 hbF (show 0 < n' by omega);have N2:=lhd (show (1:Int) < (n':Int) by omega);have N3:=lhd (show (2:Int) < (n':Int) by omega);clear hx hx0 hx1 hx2 hcell hrd hown hst hb hsp hns hcut hL hF2 hF;go_wp2_with fail;refine wp_region_any kR ?_;refine cH 13 [9,10,11,12,13,14,15,16,17,18,19,20,21] (fun b=>u3.ownBlock=some b) 12 [12] (fun w2=>w2.ownsRow w.heap.size 46 4 u3 k xs/\StpsAt w2 w.heap.size xs L) (fun v w2=>∃ys,w2.ownsRow w.heap.size 46 4 v (k+1) ys/\StpsAt w2 w.heap.size ys (L++ [aA3 x0 x1 x2])) [is (u3),is (.slice (some ⟨bk,off,none⟩) n' c'),is (.pointer (some ⟨bk,off,none⟩)),is (bv x0),is (.slice (some ⟨bk,off,none⟩) n' c'),is (.pointer (some ⟨bk,off+1,none⟩)),is (bv x1),is (.slice (some ⟨bk,off,none⟩) n' c'),is (.pointer (some ⟨bk,off+2,none⟩)),is (bv x2),fun v w2=>∃A n c,v=.agg (fB x0 x1 x2 A n c)/\DataAt w2 wr.heap.size A n c (spD x0 x1 x2),fun v w2=>∃g A n c,v=.slice (some ⟨g,0,none⟩) 1 1/\Bk w2 g 46 (fB x0 x1 x2 A n c)/\u3.ownBlock≠some g/\DataAt w2 wr.heap.size A n c (spD x0 x1 x2),cR] _ _ rfl dC kR kR kR (⟨Hown.out,Hst.out.below bR.drew⟩) (fun w1 w2 h _ hg=>⟨aP h.1 hg,h.2.below hg⟩) (fun _ _ _ ⟨ys,h1,h2⟩ k=>⟨ys,aP h1 k,h2.below k⟩) (by repeat' (first | exact iR _ _ | exact fZ _ | exact fun _ _ _ ⟨A,n,c,h1,h2⟩ k=>⟨A,n,c,h1,h2.keepF k HF.out⟩| exact fun _ _ _ ⟨g,A,n,c,h1,h2,h3,h4⟩ k=>⟨g,A,n,c,h1,k.bk h2 h3,h3,h4.keepF k HF.out⟩|(refine zAe.2 ⟨?_,?_⟩)|(intro p hp;cases hp))) ?_ ?_
    · refine bM ?_;refine pH3 3 (u3) ?_;refine pH3 0 (.slice (some ⟨bk,off,none⟩) n' c') ?_;refine sC3 (fun _ _ _ _ _ _ _ hval _ _ _ hK=>?_) ?_
      · have e10:_=_:=hval 1 10 kR rfl;have nn:=N1.out;go_simp;exact kq hK rfl
      refine sC3 (fun _ w5 hS _ _ _ _ hval _ _ _ hK=>?_) ?_
      · replace hS:Keep (fun b=>u3.ownBlock=some b) wr w5:=kD hS;have e11:_=_:=hval 2 11 kR rfl;have hbF:=Hbf.out;have cc:=(Keep.cell hS (p:=⟨bk,off+0,none⟩) hbk hbF).trans d0;rw [zBq] at cc;go_simp;exact kq hK rfl
      refine pH3 0 (.slice (some ⟨bk,off,none⟩) n' c') ?_;refine sC3 (fun _ _ _ _ _ _ _ hval _ _ _ hK=>?_) ?_
      · have e13:_=_:=hval 4 13 kR rfl;have nn:=N2.out;go_simp;exact kq hK rfl
      refine sC3 (fun _ w5 hS _ _ _ _ hval _ _ _ hK=>?_) ?_
      · replace hS:Keep (fun b=>u3.ownBlock=some b) wr w5:=kD hS;have e14:_=_:=hval 5 14 kR rfl;have hbF:=Hbf.out;have cc:=(Keep.cell hS (p:=⟨bk,off+1,none⟩) hbk hbF).trans d1;go_simp;exact kq hK rfl
      refine pH3 0 (.slice (some ⟨bk,off,none⟩) n' c') ?_;refine sC3 (fun _ _ _ _ _ _ _ hval _ _ _ hK=>?_) ?_
      · have e16:_=_:=hval 7 16 kR rfl;have nn:=N3.out;go_simp;exact kq hK rfl
      refine sC3 (fun _ w5 hS _ _ _ _ hval _ _ _ hK=>?_) ?_
      · replace hS:Keep (fun b=>u3.ownBlock=some b) wr w5:=kD hS;have e17:_=_:=hval 8 17 kR rfl;have hbF:=Hbf.out;have cc:=(Keep.cell hS (p:=⟨bk,off+2,none⟩) hbk hbF).trans d2;go_simp;exact kq hK rfl
      refine sC3 (fun _ w5 hS _ _ _ _ hval _ _ _ hK=>?_) ?_
      · replace hS:Keep (fun b=>u3.ownBlock=some b) wr w5:=kD hS;have e12:_=_:=hval 3 12 kR rfl;have e15:_=_:=hval 6 15 kR rfl;have e18:_=_:=hval 9 18 kR rfl;go_simp;refine (aI8 x0 x1 x2 w5).mono ?_;rintro e w8 ⟨A9,n9,c9,rfl,h9,hb9⟩;exact hK _ _ (aJ hb9) ⟨A9,n9,c9,rfl,h9.mono hS.size⟩
      refine sC3 (fun ev w5 hS _ _ _ _ hval _ _ _ hK=>?_) ?_
      · replace hS:Keep (fun b=>u3.ownBlock=some b) wr w5:=kD hS;have p19:(fun v w2=>∃A n c,v=.agg (fB x0 x1 x2 A n c)/\DataAt w2 wr.heap.size A n c (spD x0 x1 x2)) (ev (.tmp 19)) w5:=hval 10 19 kR rfl;obtain ⟨A9,n9,c9,e19,h9⟩:=p19;go_simp;exact hK _ _ (aJ (bR.alloc nL _)) ⟨_,A9,n9,c9,rfl,Bk.new _ _ _,fun h=>by have:=HF.out _ h;have:=hS.size;omega,h9.below (bR.alloc nL _)⟩
      refine sC3 (fun ev w5 hS hU _ _ _ hval _ _ ha hK=>?_) ?_;replace hS:Keep (fun b=>u3.ownBlock=some b) wr w5:=kD hS;have hpre:=hU rfl;have e9:_=_:=hval 0 9 kR rfl;have p20:(fun v w2=>∃g A n c,v=.slice (some ⟨g,0,none⟩) 1 1/\Bk w2 g 46 (fB x0 x1 x2 A n c)/\u3.ownBlock≠some g/\DataAt w2 wr.heap.size A n c (spD x0 x1 x2)) (ev (.tmp 20)) w5:=hval 11 20 kR rfl;obtain ⟨g9,A9,n9,c9,e20,hb9,hn9,h9⟩:=p20;subst ha;refine dS w5 (.tmp 9) (.tmp 20) _ rfl w.heap.size 46 i0 z0 4 48 Tryz.underlying41 hi0 hz0 hz1 hz2 hz3 dC u3 k xs e9 hpre.1 w5.heap.size _ 1 1 (fB x0 x1 x2 A9 n9 c9).toList e20 (lK hb9 rfl) (aHN _ _ _ _ _ _) (by unfold maxLen;omega) oM (zAk hszr hS.size) ?_;intro v6 w6 hown6 hg6 hat6;exact hK _ _ (aW (Keep.grown (Keep.refl _ _) hg6 fun k hk=>.inl hk)) ⟨_,hown6,StpsAt.snoc (s:=aA3 x0 x1 x2) (A:=A9) (n:=n9) (c:=c9) (h9.grown hpre.1 hg6 |>.mono hszr) (hpre.2.grown hpre.1 hg6)⟩;exact aC
    · intro ev w6 f hS hval;replace hS:Keep (fun b=>u3.ownBlock=some b) wr w6:=kD hS;have p21:(fun v w2=>∃ys,w2.ownsRow w.heap.size 46 4 v (k+1) ys/\StpsAt w2 w.heap.size ys (L++ [aA3 x0 x1 x2])) (ev (.tmp 21)) w6:=hval 12 21 dC rfl;simp only [aI,zq1,zq2,Act.put,zq3,zq4,zq5];clear hval;obtain ⟨ys,hown6,hst6⟩:=p21;obtain ⟨Hown6,Hst6⟩:=hqq2 hown6 hst6;clear hown6 hst6;change wpAny Tryz.prog Region.Mode.any _ _ (1+f) (bV 13 14) _ w6;rw [zCs 1 f];refine aQ (f:=f) (i:=13) kR ?_;refine bW rfl rfl ?_;generalize hK:wpAny Tryz.prog _ _ _ f _=K5;go_simp;subst hK;refine bK kR ?_;generalize ev (.tmp 21)=v6 at Hown6⊢;have hb5:Below w.heap.size wr w6:=hS.to_below Hb.out.size (fun b hb' h=>by have:=HF2.out _ h;omega);have hb6:Below w.heap.size w w6:=Hb.out.trans hb5;have kc:=iL (P:=Tryz.prog) 26 5 1 Tryz.underlying26 (fun w=>by kernel_rfl) (some ⟨bk,off,none⟩) n' c' 3 h3;go_wp2_with fail;go_roundw
      case rel=>exact ⟨k+1,n' - 3,c' - 3,_,ys,rfl,by omega,by omega,Hcut.out.below hb5,Hown6.out,by rw [Hns.out];exact Hst6.out,hb6⟩
      case measure=>simp;omega
  · have hk3:l.length / 3=k:=(by rw [Hlm.out];omega);go_wp2_with fail;go_ret;exact ⟨_,xs,rfl,by rw [hk3];exact hown,by rw [hk3];exact hst,hb⟩
theorem aH6:(Tryz.prog.info? 50).map (fun i=>(i.zero.map (·.cells.size),i.size,i.bytes))=some (some 4,4,64):=by kernel_rfl
theorem aAD:∃i0 z0,Tryz.prog.info? 50=some i0/\i0.zero=some z0/\i0.size=4/\i0.bytes=64/\z0.cells.size=4:=by
 have h:=aH6;cases hi:Tryz.prog.info? 50 with
 | none=>rw [hi] at h;cases h
 | some i0=>
   rw [hi] at h;cases hz:i0.zero with
   | none=>simp [hz] at h
   | some z0=>
     simp [hz] at h;exact ⟨i0,z0,rfl,hz,h.2.1,h.2.2,h.1⟩
theorem StpsAt.get {w:World} {B:Nat}:∀ {L:List Sp} {xs:List Value} {k:Nat} {s:Sp},StpsAt w B xs L->L[k]?=some s->
 ∃A n c,xs[k*4]?=some (.int .i64 s.kind)/\xs[k*4+1]?=some (.int .i64 s.p)/\xs[k*4+2]?=some (.int .i64 s.k)/\xs[k*4+3]?=some (.slice A n c)/\DataAt w B A n c s.D
 | [],_,k,_,_,h=>by simp at h
 | s0::L,xs,0,s,⟨A,n,c,ys,e,hd,h⟩,hk=>by have hk':s0=s:=(by simpa using hk);subst hk';exact ⟨A,n,c,by rw [e];rfl,by rw [e];rfl,by rw [e];rfl,by rw [e];rfl,hd⟩
 | s0::L,xs,k+1,s,⟨A,n,c,ys,e,hd,h⟩,hk=>by
   obtain ⟨A',n',c',h0,h1,h2,h3,h4⟩:=StpsAt.get h (k:=k) (s:=s) (by simpa using hk);have e0:∀j,xs[(k+1)*4+j]?=ys[k*4+j]?:=fun j=>by rw [e,show (k+1)*4+j=(k*4+j)+1+1+1+1 by omega];simp
   exact ⟨A',n',c',(e0 0).trans h0,(e0 1).trans h1,(e0 2).trans h2,(e0 3).trans h3,h4⟩
section
variable {w w1 w' : World} {B gs : Nat} {own own' : Nat -> Nat}
def StpZ (w:World) (B:Nat) (own:Nat->Nat) (gs:Nat) (A:Option Addr) (n:Nat) (L:List Sp):Prop:=
 L.length=n/\(0 < n->∃b off,A=some ⟨b,off,none⟩/\b < w.heap.size/\(b < B∨(Ap own gs b/\∃cs fr,w.heap[b]?=some (.cells cs 46 fr)))/\
    ∀k s,L[k]?=some s->∃A1 m1 c1,w.cell? ⟨b,off+k*4,none⟩=some (.int .i64 s.kind)/\w.cell? ⟨b,off+k*4+1,none⟩=some (.int .i64 s.p)/\w.cell? ⟨b,off+k*4+2,none⟩=some (.int .i64 s.k)/\w.cell? ⟨b,off+k*4+3,none⟩=some (.slice A1 m1 c1)/\ArgZ w B own gs A1 m1 s.D)
theorem StpZ.step {A:Option Addr} {n:Nat} {L:List Sp} (h:StpZ w B own gs A n L) (k:LFS B gs w w' own own'):StpZ w' B own' gs A n L:=by
 refine ⟨h.1,fun h0=>?_⟩;obtain ⟨b,off,rfl,hb,hB,hc⟩:=h.2 h0;have hsame:w'.heap[b]?=w.heap[b]?:=by rcases hB with q |⟨q,cs,fr,e⟩;exact k.keep.block b hb (by have q':b < B:=q;omega);exact k.vis.same e (fun f=>f.elim (fun f=>f q.col) q.ne) dC dC
 refine ⟨b,off,rfl,zAl hb k.size,?_,fun j s hs=>?_⟩;rcases hB with q |⟨q,cs,fr,e⟩;exact .inl q;exact .inr ⟨q.step k hb,cs,fr,hsame.trans e⟩
 · obtain ⟨A1,m1,c1,h1,h2,h3,h4,h5⟩:=hc j s hs;exact ⟨A1,m1,c1,(World.cell?_of_block hsame).trans h1,(World.cell?_of_block hsame).trans h2,(World.cell?_of_block hsame).trans h3,(World.cell?_of_block hsame).trans h4,h5.step k⟩
theorem StpZ.of_stps {b0 b1 n c:Nat} {A:Option Addr} {xs:List Value} {L:List Sp} (h:w1.ownsRow b0 46 4 (.slice A n c) n xs) (hs:StpsAt w1 b1 xs L) (hL:L.length=n) (hk:Below w1.heap.size w1 w):StpZ w w1.heap.size own gs A n L:=
 ⟨hL,fun h0=>by
  obtain ⟨b,off,e,hb,hc⟩:=(Rd.of_own h).2 h0;refine ⟨b,off,e,by have:=hk.size;omega,.inl hb,fun k s hks=>?_⟩;obtain ⟨A1,m1,c1,x0,x1,x2,x3,hd⟩:=hs.get hks;exact ⟨A1,m1,c1,(hk.cell hb).trans (hc _ _ x0),(hk.cell hb).trans (hc _ _ x1),(hk.cell hb).trans (hc _ _ x2),(hk.cell hb).trans (hc _ _ x3),ArgZ.old (hd.rd.below hk) nL hk.size⟩⟩
structure AnsK (H:Nat->Prop) (w w':World) (B gs:Nat) (own:Nat->Nat):Prop where
 keep:Keep H w w'
 low:∀b,H b->B<=b
 ap:∀b,H b->Ap own gs b
 ty:∀b,H b->∃cs fr,w.heap[b]?=some (.cells cs 50 fr)
theorem AnsK.same {H:Nat->Prop} (k:AnsK H w w' B gs own) {b:Nat} {cs:Array Value} {t:TypeId} {fr:Nat×Nat} (h:w.heap[b]?=some (.cells cs t fr)) (ht:t≠50):w'.heap[b]?=w.heap[b]?:=
 k.keep.block b (lt_of_block h) fun f=>by obtain ⟨cs',fr',e⟩:=k.ty b f;rw [h] at e;injection e with e;injection e with _ e;exact ht e
theorem ArgZ.ans {H:Nat->Prop} {A:Option Addr} {n:Nat} {D:List UInt8} (h:ArgZ w B own gs A n D) (k:AnsK H w w' B gs own):ArgZ w' B own gs A n D:=by
 have hs:=k.keep.size;rcases zBa n with h0 | h0;subst h0;have:D= []:=(by simpa using h.1.1);subst this;exact ⟨Rd.nil _ _ _ _,fun hh=>absurd hh oM⟩
 · obtain ⟨b,off,rfl,hb,hc⟩:=h.1.2 h0;have hsame:w'.heap[b]?=w.heap[b]?:=by
    rcases h.2 h0 _ rfl with q |⟨q,cs,fr,e⟩;exact k.keep.block b hb fun f=>by have:=k.low b f;have q':b < B:=q;omega
    exact k.same e dC
   refine ⟨⟨h.1.1,fun _=>⟨b,off,rfl,by omega,fun j u hu=>by rw [<-hc j u hu];exact World.cell?_of_block hsame⟩⟩,fun _ a ha=>?_⟩;injection ha with ha;subst ha;rcases h.2 h0 _ rfl with q |⟨q,cs,fr,e⟩;exact .inl q;exact .inr ⟨q,cs,fr,hsame.trans e⟩
theorem StpZ.ans {H:Nat->Prop} {A:Option Addr} {n:Nat} {L:List Sp} (h:StpZ w B own gs A n L) (k:AnsK H w w' B gs own):StpZ w' B own gs A n L:=by
 refine ⟨h.1,fun h0=>?_⟩;obtain ⟨b,off,rfl,hb,hB,hc⟩:=h.2 h0;have hsame:w'.heap[b]?=w.heap[b]?:=by
  rcases hB with q |⟨q,cs,fr,e⟩;exact k.keep.block b hb fun f=>by have:=k.low b f;have q':b < B:=q;omega
  exact k.same e dC
 refine ⟨b,off,rfl,zAl hb k.keep.size,?_,fun j s hs=>?_⟩;rcases hB with q |⟨q,cs,fr,e⟩;exact .inl q;exact .inr ⟨q,cs,fr,hsame.trans e⟩
 · obtain ⟨A1,m1,c1,h1,h2,h3,h4,h5⟩:=hc j s hs;exact ⟨A1,m1,c1,(World.cell?_of_block hsame).trans h1,(World.cell?_of_block hsame).trans h2,(World.cell?_of_block hsame).trans h3,(World.cell?_of_block hsame).trans h4,h5.ans k⟩
theorem MadeZ.ans {H:Nat->Prop} {e:TypeId} {A:Option Addr} {n c:Nat} {xs:List Value} (h:MadeZ w own gs e A n c xs) (k:AnsK H w w' B gs own) (h1:e≠50):MadeZ w' own gs e A n c xs:=by
 have h3:w'.ownsRow 0 e 1 (.slice A n c) n xs:=aA h.1.own fun b cs hb hbk=>(k.same hbk h1).trans hbk;refine ⟨⟨h3,Rd.of_own h3,h.1.cap,h.1.max⟩,fun a ha=>?_⟩;have:=h.2 a ha;exact ⟨zAl this.1 k.keep.size,this.2⟩
theorem LFS.ans {H:Nat->Prop} (h:LFS B gs w w1 own own') (k:Keep H w1 w') (hH:∀b,H b->w.heap.size<=b/\B<=b):LFS B gs w w' own own':=
 ⟨h.old,⟨k.os.trans h.vis.os,k.tape.trans h.vis.tape,k.output.trans h.vis.output,zAk h.vis.size k.size,fun b hb f=>by
  have e:w'.heap[b]?=w1.heap[b]?:=k.block b (zAl hb h.vis.size) fun q=>by have:=(hH b q).1;omega
  unfold Bk;rw [e];exact h.vis.block b hb f⟩,⟨k.os.trans h.keep.os,k.tape.trans h.keep.tape,k.output.trans h.keep.output,zAk h.keep.size k.size,fun b hb f=>(k.block b (zAl hb h.keep.size) fun q=>by have:=(hH b q).1;omega).trans (h.keep.block b hb f)⟩⟩
theorem aEA {v:Value} (hg:w.grownBy w' v.ownBlock):Keep (fun b=>v.ownBlock=some b) w w':=⟨hg.os,hg.tape,hg.output,hg.size,fun b hb hn=>hg.block b hb fun e=>hn e.symm⟩
def ResZ (w:World) (own:Nat->Nat) (gs:Nat) (ys:List Value) (k:Nat) (r:Told):Prop:=
 ∃A1 c1 A2 c2,ys[k*4]?=some (.int .i64 r.code)/\ys[k*4+1]?=some (.int .i64 r.num)/\ys[k*4+2]?=some (.slice A1 r.data.length c1)/\ys[k*4+3]?=some (.slice A2 r.places.length c2)/\MadeZ w own gs 5 A1 r.data.length c1 (r.data.map bv)/\MadeZ w own gs 3 A2 r.places.length c2 (r.places.map nv)
theorem ResZ.step {ys:List Value} {k:Nat} {r:Told} (h:ResZ w own gs ys k r) (q:LFS B gs w w' own own'):ResZ w' own' gs ys k r:=by
 obtain ⟨A1,c1,A2,c2,h1,h2,h3,h4,h5,h6⟩:=h;exact ⟨A1,c1,A2,c2,h1,h2,h3,h4,h5.step q dC dC,h6.step q dC dC⟩
theorem ResZ.ans {H:Nat->Prop} {ys:List Value} {k:Nat} {r:Told} (h:ResZ w own gs ys k r) (q:AnsK H w w' B gs own):ResZ w' own gs ys k r:=by
 obtain ⟨A1,c1,A2,c2,h1,h2,h3,h4,h5,h6⟩:=h;exact ⟨A1,c1,A2,c2,h1,h2,h3,h4,h5.ans q dC,h6.ans q dC⟩
theorem ResZ.more {ys zs:List Value} {k:Nat} {r:Told} (h:ResZ w own gs ys k r):ResZ w own gs (ys++zs) k r:=by
 obtain ⟨A1,c1,A2,c2,h1,h2,h3,h4,h5⟩:=h;have q:∀(i:Nat) (u:Value),ys[i]?=some u->(ys++zs)[i]?=some u:=fun i u hu=>by rw [zAn (zAc.1 hu).1];exact hu
 exact ⟨A1,c1,A2,c2,q _ _ h1,q _ _ h2,q _ _ h3,q _ _ h4,h5⟩
end
def aFO (w:World) (B:Nat) (own:Nat->Nat) (gs most rate:Nat) (T:Nat->List UInt8) (R:Nat->Told) (n:Nat) (e:Ending) (w':World):Prop:=
 ∃v ys own' gl',e=.returned v/\w'.ownsRow w.heap.size 50 4 v n ys/\(∀b,v.ownBlock=some b->Ap own' gs b)/\(∀k,k < n->ResZ w' own' gs ys k (R k))/\StAt w' B own' gs gl' most rate (T n)/\LFS B gs w w' own own'
theorem aE4 (B:Nat) (own:Nat->Nat) (gs gl most rate:Nat) (T:Nat->List UInt8) (R:Nat->Told) (A:Option Addr) (n c:Nat) (L:List Sp) (w:World) (h:StAt w B own gs gl most rate (T 0)) (hs:StpZ w B own gs A n L) (hn2:n<=100000)
 (hdo:∀k s own1 gl1 w1 A1 m1 c1,L[k]?=some s->StAt w1 B own1 gs gl1 most rate (T k)->LFS B gs w w1 own own1->ArgZ w1 B own1 gs A1 m1 s.D->Calls Tryz.prog 22 #[gs,.agg #[.int .i64 s.kind,.int .i64 s.p,.int .i64 s.k,.slice A1 m1 c1]] w1 (StDone w1 B own1 gs most rate (T (k+1)) (R k))):
 Calls Tryz.prog 138 #[.func (Fn.func 22) #[gs] #[],.slice A n c] w (aFO w B own gs most rate T R n):=by
 obtain ⟨i0,z0,hi0,hz0,hz1,hz2,hz3⟩:=aAD;have hbw:B<=w.heap.size:=h.size;obtain ⟨H,HS,HO,HL⟩:=hqq4 h hs hdo hs.1;clear h hs hdo;unfold aFO;go_enter Tryz.func138,Tryz.ntmps138;go_wp2_with fail;go_loopw [5,10] (fun v i wr=>∃(k:Nat) (ys:List Value) (own1:Nat->Nat) (gl1:Nat),k<=n/\i=.int .i64 (k:Int)/\wr.ownsRow w.heap.size 50 4 v k ys/\(∀b,v.ownBlock=some b->Ap own1 gs b)/\(∀j,j < k->ResZ wr own1 gs ys j (R j))/\StAt wr B own1 gs gl1 most rate (T k)/\LFS B gs w wr own own1) (fun _ i _=>n -(intOf i).toNat)
 case atStart=>exact ⟨0, [],own,gl,by omega,rfl,World.ownsRow_nil _ _ _ _,fun b hb=>(by cases hb),fun j hj=>absurd hj oM,H.out,LFS.refl _ _ _ _⟩
 case round=>
  obtain ⟨k,ys,own1,gl1,hk,rfl,hown,hap,hres,hst,hlf⟩:=hrel;by_cases hlt:k < n
  · obtain ⟨s,hsk⟩:∃s,L[k]?=some s:=⟨_,zAa (by rw [HL.out];exact hlt)⟩;have hsz:=hlf.size;have hsp:=HS.out.step hlf;obtain ⟨b0,off,rfl,hb0,_,hc0⟩:=hsp.2 oM;obtain ⟨Ad,md,cd,d0,d1,d2,d3,hd⟩:=hc0 k s hsk;obtain ⟨kd,hkd⟩:∃z,s.kind=z:=⟨_,rfl⟩;obtain ⟨pd,hpd⟩:∃z,s.p=z:=⟨_,rfl⟩;obtain ⟨nd,hnd⟩:∃z,s.k=z:=⟨_,rfl⟩;have hdo1:=HO.out k s own1 gl1;rw [hkd,hpd,hnd] at hdo1;rw [hkd] at d0;rw [hpd] at d1;rw [hnd] at d2;have hal:Below wr.heap.size wr (wr.alloc (.cells #[.int .i64 kd,.int .i64 pd,.int .i64 nd,.slice Ad md cd] 46)):=bR.alloc nL _;have hdo2:=hdo1 (wr.alloc (.cells #[.int .i64 kd,.int .i64 pd,.int .i64 nd,.slice Ad md cd] 46)) Ad md cd hsk (hst.vb (Vis.of_below hal)) (hlf.trans (LFS.of_below B gs own1 hal)) (hd.vis hal);obtain ⟨Hdo,Hst,Hown,Hap,Hlf,Hres,Hal,Hsz⟩:=hqq8 hdo2 hst hown hap hlf hres hal hsz;clear hst hown hap hlf hres hd hsp hc0 hdo1 hdo2 hsk hkd hpd hnd hal hsz;go_wp2_with fail;refine Hdo.out.mono ?_;rintro e w1 ⟨A1,c1,A2,c2,own2,gl2,rfl,hst1,hlf1,hm1,hm2,z1,z2⟩;obtain ⟨code,hcode⟩:∃z,(R k).code=z:=⟨_,rfl⟩;obtain ⟨num,hnum⟩:∃z,(R k).num=z:=⟨_,rfl⟩;obtain ⟨n1,hn1⟩:∃z,(R k).data.length=z:=⟨_,rfl⟩;obtain ⟨n2,hn2'⟩:∃z,(R k).places.length=z:=⟨_,rfl⟩;unfold lF;rw [hcode,hnum,hn1,hn2'];have hlf01:=(LFS.of_below B gs own1 Hal.out).trans hlf1;have hgs:gs < (wr.alloc (.cells #[.int .i64 kd,.int .i64 pd,.int .i64 nd,.slice Ad md cd] 46)).heap.size:=by have:=Hst.out.blk.lt;have:=Hal.out.size;omega
    have hmz1:MadeZ w1 own2 gs 5 A1 (R k).data.length c1 ((R k).data.map bv):=⟨⟨bF hm1.own (zAp _),hm1.rd,hm1.cap,hm1.max⟩,fun a ha=>by
        subst ha;have h7:=hm1.own.lt (k:=a.block) rfl;exact ⟨h7.2,z1 a rfl,by omega⟩⟩
    have hmz2:MadeZ w1 own2 gs 3 A2 (R k).places.length c2 ((R k).places.map nv):=⟨⟨bF hm2.own (zAp _),hm2.rd,hm2.cap,hm2.max⟩,fun a ha=>by
        subst ha;have h7:=hm2.own.lt (k:=a.block) rfl;exact ⟨h7.2,z2 a rfl,by omega⟩⟩
    have hap1:∀b,u5.ownBlock=some b->Ap own2 gs b:=fun b hb=>(Hap.out b hb).step hlf01 (Hown.out.lt b hb).2;have hown1:=aA Hown.out fun b cs hb hbk=>hlf01.bk hbk (Hap.out b hb).col (Hap.out b hb).ne dC dC;have hal1:Below w1.heap.size w1 (w1.alloc (.cells #[.int .i64 code,.int .i64 num,.slice A1 n1 c1,.slice A2 n2 c2] 50)):=bR.alloc nL _;have hown2:=aP hown1 hal1;have hlf12:=LFS.of_below B gs own2 hal1;have hst2:=hst1.vb (Vis.of_below hal1);have hlf02:=(Hlf.out.trans hlf01).trans hlf12;have hres2:∀j,j < k->ResZ (w1.alloc (.cells #[.int .i64 code,.int .i64 num,.slice A1 n1 c1,.slice A2 n2 c2] 50)) own2 gs ys j (R j):=fun j hj=>((Hres.out j hj).step hlf01).step hlf12;have hmz3:=hmz1.step hlf12 dC dC;have hmz4:=hmz2.step hlf12 dC dC;have hsz2:=hlf02.size;obtain ⟨Hown2,Hst2,Hlf2,Hres2,Hap1,Hmz3,Hmz4,Hs2,Hcode⟩:=hqq9 hown2 hst2 hlf02 hres2 hap1 hmz3 hmz4 hsz2 hcode;obtain ⟨Hnum,Hn1,Hn2⟩:=hqq3 hnum hn1 hn2';clear hown1 hown2 hst1 hst2 hlf01 hlf02 hlf12 hlf1 hm1 hm2 z1 z2 hmz1 hmz2 hmz3 hmz4 hap1 hres2 hal1 hsz2 hgs hcode hnum hn1 hn2' Hst Hown Hap Hlf Hres Hal Hsz Hdo d0 d1 d2 d3;go_wp2_with (at_builtin;refine aX _ rfl (.tmp 14) (.tmp 18) _ rfl w.heap.size 50 i0 z0 4 64 Tryz.underlying127 hi0 hz0 hz1 hz2 hz3 dC u5 k _ rfl Hown2.out _ _ 1 1 _ rfl (lK (Bk.new w1 50 #[.int .i64 code,.int .i64 num,.slice A1 n1 c1,.slice A2 n2 c2]) rfl) (by simp [Value.oneCell']) (by unfold maxLen;omega) oM Hs2.out ?_;intro v2 w2 hown3 hg3 hat3);have hkg:=aEA hg3
    have hans:AnsK (fun b=>u5.ownBlock=some b) (w1.alloc (.cells #[.int .i64 code,.int .i64 num,.slice A1 n1 c1,.slice A2 n2 c2] 50)) w2 B gs own2:=by
        refine ⟨hkg,fun b hb=>?_,Hap1.out,fun b hb=>?_⟩;have:=(Hown2.out.lt b hb).1;omega
        · rcases Hown2.out.2 with ⟨q,_⟩|⟨g,cap,cur,e1,_,e2,_⟩
          · have hb':u5.ownBlock=some b:=hb;rw [q] at hb';cases hb'
          have hb':u5.ownBlock=some b:=hb;rw [e1] at hb';injection hb' with hb';subst hb';exact ⟨cur,_,e2⟩
    have hst3:=Hst2.out.far hkg hans.ap;have hlf3:=Hlf2.out.ans hkg fun b hb=>⟨(Hown2.out.lt b hb).1,hans.low b hb⟩;have hyl:ys.length=k*4:=Hown2.out.1;have hap3:∀b,v2.ownBlock=some b->Ap own2 gs b:=fun b hb=>by rcases hat3 with e | e;rw [e] at hb;exact Hap1.out b hb;rw [e] at hb;injection hb with hb;subst hb;exact ⟨Hst2.out.fresh nL,by have:=Hst2.out.blk.lt;omega⟩
    have hres3:∀j,j < k+1->ResZ w2 own2 gs (ys++#[Value.int .i64 code,.int .i64 num,.slice A1 n1 c1,.slice A2 n2 c2].toList) j (R j):=fun j hj=>by
        by_cases e:j=k
        · subst e;have q:∀i,(ys++#[Value.int .i64 code,.int .i64 num,.slice A1 n1 c1,.slice A2 n2 c2].toList)[j*4+i]?= [Value.int .i64 code,.int .i64 num,.slice A1 n1 c1,.slice A2 n2 c2][i]?:=fun i=>by rw [zAo oM,hyl,Nat.add_sub_cancel_left]
          refine ⟨A1,c1,A2,c2,?_,?_,?_,?_,Hmz3.out.ans hans dC,Hmz4.out.ans hans dC⟩;rw [Hcode.out];exact q 0;rw [Hnum.out];exact q 1;rw [Hn1.out];exact q 2;rw [Hn2.out];exact q 3
        exact ((Hres2.out j oM).ans hans).more
    obtain ⟨Hst3,Hlf3,Hap3,Hres3,Hown3⟩:=hqq5 hst3 hlf3 hap3 hres3 hown3;clear hst3 hlf3 hap3 hres3 hown3 hkg hans hyl hg3 hat3;go_roundw
    case rel=>exact ⟨k+1,_,own2,gl2,by omega,by go_num,Hown3.out,Hap3.out,Hres3.out,Hst3.out,Hlf3.out⟩
    case measure=>simp [intOf];omega
  · have hk3:k=n:=oM;subst hk3;go_wp2_with fail;go_ret;exact ⟨_,ys,own1,gl1,rfl,hown,hap,hres,hst,hlf⟩
theorem aG9 (B:Nat) (own:Nat->Nat) (gs gl most rate:Nat) (T:Nat->List UInt8) (R:Nat->Told) (A:Option Addr) (n c:Nat) (L:List Sp) (w:World) (h:StAt w B own gs gl most rate (T 0)) (hs:StpZ w B own gs A n L) (hn2:n<=100000)
 (hdo:∀k s own1 gl1 w1 A1 m1 c1,L[k]?=some s->StAt w1 B own1 gs gl1 most rate (T k)->LFS B gs w w1 own own1->ArgZ w1 B own1 gs A1 m1 s.D->Calls Tryz.prog 22 #[gs,.agg #[.int .i64 s.kind,.int .i64 s.p,.int .i64 s.k,.slice A1 m1 c1]] w1 (StDone w1 B own1 gs most rate (T (k+1)) (R k))):
 Calls Tryz.prog 84 #[gs,.slice A n c] w (aFO w B own gs most rate T R n):=by
 have ht:=aE4 B own gs gl most rate T R A n c L w h hs hn2 hdo;have HT:=lhd ht;clear h hs hdo ht;unfold aFO at HT⊢;go_enter Tryz.func84,Tryz.ntmps84;go_wp2_with fail;refine HT.out.mono ?_;rintro e w1 ⟨v,ys,own1,gl1,rfl,h1,h2,h3,h4,h5⟩;go_wp2_with fail;go_ret;exact ⟨v,ys,own1,gl1,rfl,h1,h2,h3,h4,h5⟩
structure M0 (w:World) (g gp:Nat) (most:Int):Prop where
 mod:Bk w g 185 #[gp,.int .i64 most]
 pl:∃A c,Bk w gp 183 #[.slice A 0 c]
 b0:0<=most
 b1:most<=2147483648
theorem M0.pls {w:World} {g gp:Nat} {most:Int} (h:M0 w g gp most):PlS w gp []:=by
 obtain ⟨A,c,hb⟩:=h.pl;exact ⟨A,c,hb,⟨rfl,fun h=>absurd h (by simp)⟩,zAp _,fun h=>absurd h (by simp)⟩
theorem M0.ne {w:World} {g gp:Nat} {most:Int} (h:M0 w g gp most):g≠gp:=by
 obtain ⟨A,c,hb⟩:=h.pl;intro e;have h1:=h.mod;rw [e] at h1;exact absurd (vZ h1 hb) dC
theorem M0.keep {w w':World} {g gp:Nat} {most:Int} (h:M0 w g gp most) (k:∀b t cs,t≠50->Bk w b t cs->Bk w' b t cs):M0 w' g gp most:=by
 obtain ⟨A,c,hb⟩:=h.pl;exact ⟨k _ _ _ dC h.mod,⟨A,c,k _ _ _ dC hb⟩,h.b0,h.b1⟩
theorem M0.below {w w':World} {g gp:Nat} {most:Int} (h:M0 w g gp most) (k:Below w.heap.size w w'):M0 w' g gp most:=h.keep fun b t cs _ hb=>hb.below k hb.lt
theorem M0.grown {w w':World} {g gp b sz n:Nat} {most:Int} {v:Value} {ys:List Value} (h:M0 w g gp most) (ho:w.ownsRow b 50 sz v n ys) (hg:w.grownBy w' v.ownBlock):M0 w' g gp most:=
 h.keep fun b t cs ht hb=>(hg.block b hb.lt (aY ho hb (fun e=>ht e.symm))).trans hb
def FrM (w w':World):Prop:=∀b t cs,t≠183->Bk w b t cs->Bk w' b t cs
theorem FrM.of_below {w w':World} (k:Below w.heap.size w w'):FrM w w':=fun b t cs _ hb=>hb.below k hb.lt
theorem FrM.trans {w w1 w':World} (h:FrM w w1) (k:FrM w1 w'):FrM w w':=fun b t cs h1 hb=>k b t cs h1 (h b t cs h1 hb)
theorem FrM.grown {w w1 w':World} {sz n:Nat} {v:Value} {ys:List Value} {e:TypeId} (h:FrM w w1) (ho:w1.ownsRow w.heap.size e sz v n ys) (hg:w1.grownBy w' v.ownBlock):FrM w w':=fun b t cs h1 hb=>by
 have hb1:=h b t cs h1 hb;refine (hg.block b hb1.lt (fun e=>?_)).trans hb1;have:=(ho.lt b e.symm).1;have:=hb.lt;omega
structure OkM (most:Int) (mC:Sp->Int) (s:Sp):Prop where
 at0:doM [] most s.kind s.p s.k s.D=([],⟨mC s,0, [], []⟩)
 pb:-9223372036854775808<=s.p/\s.p<=9223372036854775807
 kb:-9223372036854775808<=s.k/\s.k<=9223372036854775807
 db:s.D.length<=549755813888
def DoZ (g gp:Nat) (most:Int) (B:Nat) (code:Int) (w:World) (e:Ending) (w':World):Prop:=
 ∃A1 c1 A2 c2,e=.returned (.agg #[.int .i64 code,.int .i64 0,.slice A1 0 c1,.slice A2 0 c2])/\M0 w' g gp most/\FrM w w'/\Below B w w'
theorem aKh (g gp B b1:Nat) (most:Int) (mC:Sp->Int) (s:Sp) (A:Option Addr) (m c:Nat) (w:World) (h:M0 w g gp most) (hB:B<=gp) (hd:DataAt w b1 A m c s.D) (hok:OkM most mC s):
 Calls Tryz.prog 139 #[g,.agg #[.int .i64 s.kind,.int .i64 s.p,.int .i64 s.k,.slice A m c]] w (DoZ g gp most B (mC s) w):=by
 obtain ⟨Ap,cp,hpl⟩:=h.pl;have hne:0 < m->∀a,A=some a->a.block≠gp:=fun h0 a ha e=>by
  obtain ⟨_,_,_,⟨h1,_,_⟩|⟨g1,cs,h1,_,h2,_⟩⟩:=hd
  · rw [h1] at ha;cases ha
  rw [h1] at ha;injection ha with ha;subst ha;have e':g1=gp:=e;subst e';exact absurd (vZ h2 hpl) dC
 have hm:m<=549755813888:=by have:=hd.1;have:=hok.db;omega
 refine (aLg g gp A m c w.heap.size s.kind s.p s.k most [] s.D [] ⟨mC s,0, [], []⟩ hok.at0 w h.mod h.pls hd.rd nL hne h.ne (by simp) hm hok.pb hok.kb ⟨h.b0,h.b1⟩).mono ?_;rintro e w' ⟨A1,c1,A2,c2,he,hk,h3,h4,h5⟩;obtain ⟨A5,c5,h6,_⟩:=h5;exact ⟨A1,c1,A2,c2,he,⟨hk.bk h.mod (fun e=>h.ne e),⟨A5,c5,h6⟩,h.b0,h.b1⟩,fun b t cs ht hb=>hk.bk hb (fun e=>by
  have e':b=gp:=e;subst e';exact ht (vZ hb hpl)),hk.to_below (by have:=hpl.lt;omega) (fun b hb e=>by have e':b=gp:=e;omega)⟩
def tX (w:World) (g gp B:Nat) (most:Int) (mC:Sp->Int) (L:List Sp) (n:Nat) (e:Ending) (w':World):Prop:=
 ∃v ys,e=.returned v/\w'.ownsRow w.heap.size 50 4 v n ys/\(∀k s,k < n->L[k]?=some s->ys[k*4]?=some (.int .i64 (mC s)))/\M0 w' g gp most/\Below B w w'/\FrM w w'
theorem aBr {w w':World} {b sz n:Nat} {e:TypeId} {v:Value} {xs:List Value} (he:e≠183) (h:w.ownsRow b e sz v n xs) (k:FrM w w'):w'.ownsRow b e sz v n xs:=aA h fun b cs _ hb=>k _ _ _ he hb
theorem StpsAt.frm {w w':World} {B:Nat} {L:List Sp} {xs:List Value} (h:StpsAt w B xs L) (k:FrM w w'):StpsAt w' B xs L:=h.keep fun g cs _ hb=>k _ _ _ dC hb
theorem aE9 (g gp B b0 b1:Nat) (most:Int) (mC:Sp->Int) (A:Option Addr) (n c:Nat) (xs:List Value) (L:List Sp) (w:World) (h:M0 w g gp most) (hB:B<=gp)
 (hl:w.ownsRow b0 46 4 (.slice A n c) n xs) (hs:StpsAt w b1 xs L) (hn:L.length=n) (hn2:n<=100000) (hok:∀s∈L,OkM most mC s):
 Calls Tryz.prog 138 #[.func (Fn.func 139) #[g] #[],.slice A n c] w (tX w g gp B most mC L n):=by
 obtain ⟨i0,z0,hi0,hz0,hz1,hz2,hz3⟩:=aAD;have hbw:B<=w.heap.size:=by obtain ⟨_,_,hp⟩:=h.pl;have:=hp.lt;omega
 obtain ⟨H,HL,HS,Hn,HO,HB⟩:=hqq6 h hl hs hn hok hB;clear h hl hs hn hok hB;go_enter Tryz.func138,Tryz.ntmps138;go_wp2_with fail;go_loopw [5,10] (fun v i wr=>∃(k:Nat) (ys:List Value),k<=n/\i=.int .i64 (k:Int)/\wr.ownsRow w.heap.size 50 4 v k ys/\(∀k' s,k' < k->L[k']?=some s->ys[k'*4]?=some (.int .i64 (mC s)))/\M0 wr g gp most/\Below B w wr/\FrM w wr/\w.heap.size<=wr.heap.size) (fun _ i _=>n -(intOf i).toNat)
 case atStart=>exact ⟨0, [],by omega,rfl,World.ownsRow_nil _ _ _ _,fun _ _ h=>absurd h oM,H.out,Below.refl _ _,fun _ _ _ _ h=>h,zAs _⟩
 case round=>
  obtain ⟨k,ys,hk,rfl,hown,hys,hst,hb,hf,hsz⟩:=hrel;by_cases hlt:k < n
  · obtain ⟨s,hsk⟩:∃s,L[k]?=some s:=⟨_,zAa (by rw [Hn.out];exact hlt)⟩;have hlw:=aBr dC HL.out hf;obtain ⟨Ad,md,cd,x0,x1,x2,x3,hd⟩:=(HS.out.frm hf).get hsk;have hrd:=Rd.of_own hlw;obtain ⟨gl0,off,rfl,hglt,hcell⟩:=hrd.2 oM;have d0:wr.cell? ⟨gl0,off+k*4,none⟩=some (.int .i64 s.kind):=hcell _ _ x0;have d1:wr.cell? ⟨gl0,off+k*4+1,none⟩=some (.int .i64 s.p):=hcell _ _ x1;have d2:wr.cell? ⟨gl0,off+k*4+2,none⟩=some (.int .i64 s.k):=hcell _ _ x2;have d3:wr.cell? ⟨gl0,off+k*4+3,none⟩=some (.slice Ad md cd):=hcell _ _ x3;obtain ⟨Hst,Hown,Hb,Hf,Hd,Hsk,Hys⟩:=hqq7 hst hown hb hf hd hsk hys;clear hst hown hb hf hd hsk x0 x1 x2 x3 hcell hrd hlw hys;go_wp2_with fail;have hal:Below wr.heap.size wr (wr.alloc (.cells #[.int .i64 s.kind,.int .i64 s.p,.int .i64 s.k,.slice Ad md cd] 46)):=bR.alloc nL _;refine (aKh g gp B b1 most mC s Ad md cd _ (Hst.out.below hal) HB.out (Hd.out.below hal) (HO.out s (zAd Hsk.out))).mono ?_;rintro e w1 ⟨A1,c1,A2,c2,rfl,hst1,hf1,hb1⟩;have hf01:=(FrM.of_below hal).trans hf1;have hown1:=aBr dC Hown.out hf01;have hszr:wr.heap.size<=w1.heap.size:=zAk hal.size hb1.size;obtain ⟨an,han⟩:=eqx (mC s);rw [han];have hal1:Below w1.heap.size w1 (w1.alloc (.cells #[.int .i64 an,.int .i64 0,.slice A1 0 c1,.slice A2 0 c2] 50)):=bR.alloc nL _;have hown2:=aP hown1 hal1;have hst2:=hst1.below hal1;have hf02:=(Hf.out.trans hf01).trans (FrM.of_below hal1);have hb02:=(Hb.out.trans ((hal.mono oM).trans hb1)).trans (hal1.mono oM);have hsz2:w.heap.size<=(w1.alloc (.cells #[.int .i64 an,.int .i64 0,.slice A1 0 c1,.slice A2 0 c2] 50)).heap.size:=(by have:=hal1.size;omega);obtain ⟨Hown2,Hst2,Hf2,Hb2,Han,Hs2⟩:=hqq6 hown2 hst2 hf02 hb02 han hsz2;clear hown1 hown2 hst1 hst2 hf01 hf02 hf1 hb1 hb02 hal hal1 Hst Hown Hf Hb han hsz2 d0 d1 d2 d3;go_wp2_with (at_builtin;refine aX _ rfl (.tmp 14) (.tmp 18) _ rfl w.heap.size 50 i0 z0 4 64 Tryz.underlying127 hi0 hz0 hz1 hz2 hz3 dC u5 k _ rfl Hown2.out _ _ 1 1 _ rfl (lK (Bk.new w1 50 #[.int .i64 an,.int .i64 0,.slice A1 0 c1,.slice A2 0 c2]) rfl) (by simp [Value.oneCell']) (by unfold maxLen;omega) oM Hs2.out ?_;intro v2 w2 hown3 hg3 hat3);have hst3:=Hst2.out.grown Hown2.out hg3;have hf3:=Hf2.out.grown Hown2.out hg3;have hb3:=aZ Hb2.out (bF Hown2.out hbw) hg3 (zAk hbw Hs2.out);have hs3:=zAk Hs2.out hg3.size;have hyl:ys.length=k*4:=Hown2.out.1;go_roundw
    case rel=>refine ⟨k+1,_,by omega,by go_num,hown3,fun k' s' hk' hs'=>?_,hst3,hb3,hf3,hs3⟩;by_cases e:k'=k;subst e;rw [Hsk.out] at hs';injection hs' with hs';subst hs';rw [zAo oM,hyl,Nat.sub_self,Han.out];rfl;rw [zAn oM];exact Hys.out k' s' oM hs'
    case measure=>simp [intOf];omega
  · have hk3:k=n:=oM;subst hk3;go_wp2_with fail;go_ret;exact ⟨_,ys,rfl,hown,hys,hst,hb,hf⟩
theorem aDn (g gp B b0 b1:Nat) (most:Int) (mC:Sp->Int) (A:Option Addr) (n c:Nat) (xs:List Value) (L:List Sp) (w:World) (h:M0 w g gp most) (hB:B<=gp)
 (hl:w.ownsRow b0 46 4 (.slice A n c) n xs) (hs:StpsAt w b1 xs L) (hn:L.length=n) (hn2:n<=100000) (hok:∀s∈L,OkM most mC s):
 Calls Tryz.prog 85 #[g,.slice A n c] w (tX w g gp B most mC L n):=by
 have ht:=aE9 g gp B b0 b1 most mC A n c xs L w h hB hl hs hn hn2 hok;have HT:=lhd ht;clear h hl hs hn hok ht;unfold tX at HT⊢;go_enter Tryz.func85,Tryz.ntmps85;go_wp2_with fail;refine HT.out.mono ?_;rintro e w1 ⟨v,ys,rfl,h1,h2,h3,h4,h5⟩;go_wp2_with fail;go_ret;exact ⟨v,ys,rfl,h1,h2,h3,h4,h5⟩
end Go.Proofs.YthldmddkfbijhaaGreatDoor
