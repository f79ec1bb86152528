/- Lemmas of the walk. Conditions: each its own. -/
import Derived.Test.YthldmddkfbijhaaGreatDoorPsr7
import Derived.Test.YthldmddkfbijhaaGreatDoorPsr10
import Derived.Test.YthldmddkfbijhaaGreatDoorProg
import Derived.Test.YthldmddkfbijhaaGreatDoorShl
set_option linter.all false
set_option maxRecDepth 100000
set_option maxHeartbeats 2000000
namespace Go.Proofs.YthldmddkfbijhaaGreatDoor
section
open Go.RowKit
theorem ix9 (S:Nat->Value) (lv:Nat) (h:lv < 9) (w:World):(Instr.index 152 (.agg #[S 0,S 1,S 2,S 3,S 4,S 5,S 6,S 7,S 8]) (.int .i64 (lv:Int))).run Tryz.prog w=.ok (S lv) w:=by
 rcases lv with _ | _ | _ | _ | _ | _ | _ | _ | _ | lv
 all_goals first |(exfalso;omega)| kernel_rfl
theorem iG (B gv:Nat) (L:List Nat) (k s:Nat) (w:World) (h:WaveAt w B gv L) (hs:s < 257) (hk:k<=L.length) (hL:∀x∈L,x < 257) (hn:L.length<=1000):
 Calls Tryz.prog 161 #[gv,(k:Int),(s:Int)] w fun e w'=>e=.returned (.int .i64 (((L.take k).count s:Nat):Int))/\VB B w w':=by
 have h90:=lV L k s hk hL hs;have h99:=aAQ L k s;obtain ⟨hBg,S,v,hb,hrows⟩:=h;have hset:=hb.set 10 (.int .i64 0);rw [cO] at hset;have hv1:=VB.set_wave hb hBg 0;obtain ⟨n,hnn⟩:=eqx L.length;rw [hnn] at hb hset hk hn;have m1:max (k:Int) 0=(k:Int):=oM;have m2:min (k:Int) (n:Int)=(k:Int):=oM;have f10:=hb.frozen 10;have x10:w.cell? ⟨gv,10,none⟩=some (.int .i64 v):=(hb.cell 10).trans (bI S n v).2.2.2.2.2.2.2.2.2.2;have hlt:=hb.lt;obtain ⟨W,hW⟩:=eqx (w.setCell ⟨gv,10,none⟩ (.int .i64 0));rw [hW] at hset hv1;obtain ⟨Hset,Hv1,Hrows,H0,H9,HL,HN,HW⟩:=hqq8 hset hv1 hrows h90 h99 hL hnn hW;clear hb hrows hset hv1 h90 h99 hL hnn hW;go_enter Tryz.func161,Tryz.ntmps161;go_wp2_with fail;rw [HW.out];refine (fJ s _ hs).mono ?_;rintro e w1 ⟨rfl,hb1⟩;have hbk:=Hset.out.below hb1 Hset.out.lt;have hv2:=Hv1.out.below hb1;obtain ⟨d0,d1,d2,d3,d4,d5,d6,d7,d8,d9,d10⟩:=bI S (n:Int) 0;have c0:w1.cell? ⟨gv,0,none⟩=some (S 0):=(hbk.cell 0).trans d0;have c1:w1.cell? ⟨gv,1,none⟩=some (S 1):=(hbk.cell 1).trans d1;have c2:w1.cell? ⟨gv,2,none⟩=some (S 2):=(hbk.cell 2).trans d2;have c3:w1.cell? ⟨gv,3,none⟩=some (S 3):=(hbk.cell 3).trans d3;have c4:w1.cell? ⟨gv,4,none⟩=some (S 4):=(hbk.cell 4).trans d4;have c5:w1.cell? ⟨gv,5,none⟩=some (S 5):=(hbk.cell 5).trans d5;have c6:w1.cell? ⟨gv,6,none⟩=some (S 6):=(hbk.cell 6).trans d6;have c7:w1.cell? ⟨gv,7,none⟩=some (S 7):=(hbk.cell 7).trans d7;have c8:w1.cell? ⟨gv,8,none⟩=some (S 8):=(hbk.cell 8).trans d8;have c9:w1.cell? ⟨gv,9,none⟩=some (.int .i64 (n:Int)):=(hbk.cell 9).trans d9;obtain ⟨Hbk,Hv2⟩:=hqq2 hbk hv2;clear d0 d1 d2 d3 d4 d5 d6 d7 d8 d9 d10 hbk hv2 hb1 Hset Hv1 x10 f10;go_wp2_with fail;go_loopw [1,28] (fun x i wr=>∃lv:Nat,lv<=9/\i=.int .i64 lv/\x=.int .i64 ((fU L k s lv:Nat):Int)/\VB B w1 wr) (fun _ i _=>9 -(intOf i).toNat)
 case atStart=>exact ⟨0,by omega,rfl,by rw [H0.out],VisK.refl _ _⟩
 case round=>
  obtain ⟨lv,hlv,rfl,rfl,hv⟩:=hrel;by_cases hl9:lv < 9
  · have hix:=ix9 S lv hl9;obtain ⟨G,hown,htr⟩:=Hrows.out lv hl9;obtain ⟨m,hm⟩:=eqx (2 ^ lv);obtain ⟨p,hp⟩:=eqx (bG s lv);have hpm:p < m:=(by rw [<-hm,<-hp];exact mJ s lv hs oM);rw [hm] at hown htr;obtain ⟨g,cap,hSl,hnc,hgl⟩:=World.ownsRow.form hown oM;rw [hSl] at hix hown;obtain ⟨x,hx⟩:=eqx (fU L k s lv);obtain ⟨y,hy⟩:=eqx (fU L k s (lv+1));obtain ⟨b,hbb⟩:=eqx (gO s lv);have hxy:=lW L k s lv hl9;have hxl:=aFN L k s lv;rw [hp,hx,hbb,hy] at hxy;rw [hp,hx] at hxl;rw [hx];have hpI:(p:Int) < (m:Int):=oM;obtain ⟨Hxy,Hxl,Hown,Htr,Hp,Hb,Hy,Hv⟩:=hqq8 hxy hxl hown (htr p hpm) hp hbb hy hv;clear hown htr hSl hm hp hx hy hbb hxy hxl hv;go_wp2_with fail;refine wp_region_any kR ?_;refine aO [32,33,34,35,36,37,38,39,40,41,42,43,1] (VB B) (Vs [is gv,is (.slice (some ⟨g,0,none⟩) m cap),is (s:Int),is (lv:Int),is (p:Int),is (.pointer (some ⟨g,p*3,none⟩)),is (.agg #[.pointer (some ⟨G p,0,none⟩),(lv:Int),(p:Int)]),is (x:Int),is (s:Int),is (lv:Int),is (.bool b),is (y:Int),is (y:Int)]) _ _ rfl kR vR (fun _ _=>VisK.trans) (cL tA1) ?_ ?_
    · refine aM ?_;refine pH 0 (.pointer (some ⟨gv,0,none⟩)) ?_;refine pH 8 (.slice (some ⟨g,0,none⟩) m cap) ?_;refine pH 2 (.int .i64 (s:Int)) ?_;refine pH 7 (.int .i64 (lv:Int)) ?_;refine sC (fun _ w5 _ _ _ _ hval _ _ _ hK=>?_) ?_
      · have e34:_=_:=hval 2 34 kR rfl;have e35:_=_:=hval 3 35 kR rfl;go_simp;refine (lC s lv w5 hs oM).mono ?_;rintro e w8 ⟨rfl,hb8⟩;rw [Hp.out];exact hK _ _ (VisK.of_below hb8) rfl
      refine pW 1 33 4 36 ?_;refine sC (fun _ w5 hS _ _ _ hval _ _ _ hK=>?_) ?_
      · have e37:_=_:=hval 5 37 kR rfl;replace hS:(VB B) wr w5:=bD hS;have hrow5:=(Hv2.out.trans (Hv.out.trans hS)).1.own Hown.out dC dC;obtain ⟨q0,q1,q2⟩:=fO G lv m p hpm;have a0:w5.cell? ⟨g,p*3,none⟩=_:=(World.ownsRow.cellAt hrow5 (p*3) oM).trans q0;have a1:w5.cell? ⟨g,p*3+1,none⟩=_:=(World.ownsRow.cellAt hrow5 (p*3+1) oM).trans q1;have a2:w5.cell? ⟨g,p*3+2,none⟩=_:=(World.ownsRow.cellAt hrow5 (p*3+2) oM).trans q2;go_simp;exact hK _ _ vR rfl
      refine pH 1 (.int .i64 (x:Int)) ?_;refine pH 2 (.int .i64 (s:Int)) ?_;refine pH 7 (.int .i64 (lv:Int)) ?_;refine sC (fun _ w5 _ _ _ _ hval _ _ _ hK=>?_) ?_
      · have e40:_=_:=hval 8 40 kR rfl;have e41:_=_:=hval 9 41 kR rfl;go_simp;refine (mW s lv w5 hs hl9).mono ?_;rintro e w8 ⟨rfl,hb8⟩;rw [Hb.out];exact hK _ _ (VisK.of_below hb8) rfl
      refine sC (fun _ w5 hS _ _ _ hval _ _ _ hK=>?_) ?_
      · have e32:_=_:=hval 0 32 kR rfl;have e38:_=_:=hval 6 38 kR rfl;have e39:_=_:=hval 7 39 kR rfl;have e42:_=_:=hval 10 42 kR rfl;replace hS:(VB B) wr w5:=bD hS;go_simp;obtain ⟨v5,hw5⟩:=(Hv.out.trans hS).1.waveC Hbk.out;have ht5:=Htr.out.2.vis (Hv2.out.trans (Hv.out.trans hS)).1;refine (mV gv (G p) S n v5 lv p (aL L lv p) x b w5 hw5 ht5 Hxl.out).mono ?_;rintro e w8 ⟨rfl,hv8⟩;rw [Hxy.out];exact hK _ _ (hv8.mono fun b hb=>by rcases hb with rfl | rfl;exact hBg;exact Htr.out.1) rfl
      refine pV 11 43 ?_;exact aC
    · intro ev w6 hS hval;replace hS:(VB B) wr w6:=bD hS;have e1:ev (.tmp 1)=.int .i64 (y:Int):=hval 12 1 rfl;simp only [aI,zq1,zq2,Act.put,zq3,zq4,zq5];rw [e1];clear hval;have hv6:=Hv.out.trans hS;go_wp2_with fail;go_roundw
      case rel=>exact ⟨lv+1,by omega,by go_num,by rw [Hy.out],hv6⟩
      case measure=>simp [intOf];omega
  · have h9:lv=9:=oM;subst h9;rw [H9.out];go_wp2_with fail;go_ret;exact ⟨rfl,Hv2.out.trans hv⟩
def bL (l:List Nat) (i:Nat):Nat:=l.getD ((i+l.length - 1)% l.length) 0
def aE (l rs:List Nat):List Nat:=rs.map (bL l)
theorem bU (l rs:List Nat):(aE l rs).length=rs.length:=by simp [aE]
theorem aIe {l:List Nat} (h:∀s∈l,s < 257) (i:Nat):bL l i < 257:=by
 unfold bL;rw [zAb];cases e:l[(i+l.length - 1)% l.length]? with
 | none=>simp
 | some x=>simpa using h x (zAd e)
theorem dM {l rs:List Nat} (h:∀s∈l,s < 257):∀s∈aE l rs,s < 257:=by
 intro s hs;obtain ⟨i,_,rfl⟩:=zAy.1 hs;exact aIe h i
theorem aGc (n:Nat) (hn:n<=1000000) (w:World):(Instr.makeSlice 22 (.int .i64 0) (.int .i64 (n:Int))).run Tryz.prog w=.ok (.slice (some ⟨w.heap.size,0,none⟩) 0 n) (w.alloc (.cells (madeCells #[.int .i64 0] n) 3)):=by
 obtain ⟨i0,hi0,hz0,hz1,hz2⟩:=info_parts gC;have:=run_make (P:=Tryz.prog) w 22 3 i0 (.int .i64 0) Tryz.underlying22 hi0 hz0 .i64 .i64 0 n oM oM (by rw [hz2];omega) oM;rw [this,hz1];simp only [Value.cells,zBr,zBl];rfl
theorem aCD {w w':World} {sz n:Nat} {A:Option Addr} {xs:List Value} {row:Option Nat} (h:Rd w w.heap.size sz A n xs) (hg:w.grownBy w' row) (hA:∀a,A=some a->row≠some a.block):Rd w' w'.heap.size sz A n xs:=by
 refine ⟨h.1,fun hn=>?_⟩;obtain ⟨b,off,rfl,hb,hc⟩:=h.2 hn;refine ⟨b,off,rfl,zAl hb hg.size,fun j u hu=>?_⟩;rw [World.cell?_of_block (w:=w) (hg.block b hb (fun e=>hA _ rfl e.symm))];exact hc j u hu
def Apt (v:Value) (A:Option Addr):Prop:=∀a,A=some a->v.ownBlock≠some a.block
theorem Apt.next {v v':Value} {A:Option Addr} {g:Nat} (h:Apt v A) (ho:v'.ownBlock=v.ownBlock∨v'.ownBlock=some g) (hA:∀a,A=some a->a.block < g):Apt v' A:=by
 intro a ha hb;rcases ho with e | e;exact h a ha (e.symm.trans hb);rw [e] at hb;injection hb with hb;have:=hA a ha;omega
theorem oD (A:Option Addr) (m c B:Nat) (t:List UInt8) (w:World) (hr:Rd w B 1 A m (t.map bv)) (hB:B<=w.heap.size) (hm:m<=200):
 Calls Tryz.prog 110 #[.slice A m c] w fun e w'=>∃rs A' c',IsSuf (aG t) rs/\e=.returned (.slice A' (m+1) c')/\Made w' w.heap.size 3 1 A' (m+1) c' ((aE (aG t) rs).map sv)/\Below w.heap.size w w':=by
 obtain ⟨i0,hi0,hz0,hz1,hz2⟩:=info_parts gC;have htl:t.length=m:=by simpa using hr.1
 obtain ⟨Hr,Htl⟩:=hqq2 hr htl;clear hr htl;go_enter Tryz.func110,Tryz.ntmps110;go_wp2_with fail;obtain ⟨n,hn⟩:=eqx (m+1);have hsa:=yR w.heap.size 0 A m c w.heap.size t (w.alloc (.cells #[.slice A m c] 26)) (Bk.new _ _ _) ((Hr.out.mono hB).alloc nL _) (by simp) oM;have hrs:=fun W (hb:Below w.heap.size w W)=>oC A m c w.heap.size t W ((Hr.out.mono hB).below hb) hb.size hm;simp only [hn] at hsa hrs;have hn2:n<=201:=oM;have hn1:1<=n:=oM;have hll:(aG t).length=n:=by rw [aT,Htl.out,hn]
 obtain ⟨HN,Hll,HRS⟩:=hqq3 hn hll hrs;clear hn hll hrs;refine hsa.mono ?_;clear hsa;rintro e w1 ⟨A1,c1,rfl,hm1,hb1⟩;have hb1':=((Below.refl w.heap.size w).alloc nL _).trans (hb1.mono (by simp));have kz:=aGc n oM;obtain ⟨Hm1,Hb1⟩:=hqq2 hm1 hb1';clear hm1 hb1 hb1';go_wp2_with fail;clear kz;have hb2:=Hb1.out.alloc Hb1.out.size (.cells (madeCells #[.int .i64 0] n) 3);have hm2:=Hm1.out.below (bR.alloc nL (.cells (madeCells #[.int .i64 0] n) 3));have hown:(w1.alloc (.cells (madeCells #[.int .i64 0] n) 3)).ownsRow w.heap.size 3 1 (.slice (some ⟨w1.heap.size,0,none⟩) 0 n) 0 []:=World.ownsRow_made _ _ _ Hb1.out.size (by unfold maxLen;omega) (by simp [madeCells]);obtain ⟨g1,hg1⟩:∃g,w1.heap.size=g:=⟨_,rfl⟩;have hgs:g1 < (w1.alloc (.cells (madeCells #[.int .i64 0] n) 3)).heap.size:=by rw [<-hg1];simp
 have hap1:Apt (.slice (some ⟨g1,0,none⟩) 0 n) A1:=by
  intro a ha hb;obtain ⟨A9,c9,h9,_,h8⟩:=aV Hm1.out.own;injection h9 with h9;have:=(h8 a (h9.symm.trans ha)).2;have hb':g1=a.block:=by simpa [Value.ownBlock] using hb
  omega
 have Hap1:=lhd hap1;clear hap1;rw [hg1] at hown⊢;generalize w1.alloc (.cells (madeCells #[.int .i64 0] n) 3)=W2 at hb2 hm2 hown hgs⊢;obtain ⟨Hown,Hm2⟩:=hqq2 hown hm2;clear hown hm2 Hm1 Hb1 hg1;refine (HRS.out W2 hb2).mono ?_;rintro e w3 ⟨rs,A3,c3,hsuf,rfl,hm3,hb3⟩;have hb3':=hb2.trans (hb3.mono hb2.size);have hown3:=aP Hown.out hb3;have hm23:=Hm2.out.below hb3;have hap3:Apt (.slice (some ⟨g1,0,none⟩) 0 n) A3:=by
  intro a ha hb;obtain ⟨A9,c9,h9,_,h8⟩:=aV hm3.own;injection h9 with h9;have:=(h8 a (h9.symm.trans ha)).1;have hb':g1=a.block:=by simpa [Value.ownBlock] using hb
  omega
 have Hap3:=lhd hap3;clear hap3;obtain ⟨Hsuf,Hm3,Hm23,Hown3,Hb3⟩:=hqq5 hsuf hm3.rd hm23.rd hown3 hb3';clear hsuf hm3 hm23 hown3 hb3' hb3 hb2 Hown Hm2 HRS;go_wp2_with fail;go_loopw [4,6,16] (fun v _ i wr=>∃k:Nat,k<=n/\i=.int .i64 k/\wr.ownsRow w.heap.size 3 1 v k ((aE (aG t) (rs.take k)).map sv)/\Below w.heap.size w wr/\Apt v A1/\Apt v A3/\Rd wr wr.heap.size 1 A1 n ((aG t).map sv)/\Rd wr wr.heap.size 1 A3 n (rs.map sv)) (fun _ _ i _=>n -(intOf i).toNat)
 case atStart=>exact ⟨0,by omega,rfl,Hown3.out,Hb3.out,Hap1.out,Hap3.out,Hm23.out,Hm3.out⟩
 case round=>
  obtain ⟨k,hk,rfl,hown,hbw,hp1,hp3,hrl,hrr⟩:=hrel;by_cases hlt:k < n
  · obtain ⟨b,off,u,rfl,hbl,hu,hc⟩:=hrr.get hlt;rw [zAf] at hu;obtain ⟨p,hp,rfl⟩:=Option.map_eq_some_iff.1 hu;have hpn:p < n:=(by have:=Hsuf.out.lt (zAd hp);rw [Hll.out] at this;exact this);obtain ⟨q,hq⟩:=eqx ((p+n - 1)% n);have hqn:q < n:=(by rw [<-hq];exact Nat.mod_lt _ oM);obtain ⟨b',off',u',rfl,hbl',hu',hc'⟩:=hrl.get hqn;rw [zAf] at hu';obtain ⟨x,hx,rfl⟩:=Option.map_eq_some_iff.1 hu';have hpx:bL (aG t) p=x:=(by unfold bL;rw [Hll.out,hq,zAb,hx];rfl);have htk:aE (aG t) (rs.take (k+1))=aE (aG t) (rs.take k)++ [x]:=(by rw [zAv,hp,aE,zAz,<-hpx];rfl);unfold sv at hc hc';have hqi:((p:Int)+(n:Int) - 1)%(n:Int)=(q:Int):=(by rw [<-hq,Int.natCast_emod];congr 1;omega);have hqt:((p:Int)+(n:Int) - 1).tmod (n:Int)=(q:Int):=(by rw [Int.tmod_eq_emod_of_nonneg oM];exact hqi);obtain ⟨Htk,Hown2,Hp1,Hp3,Hbw,Hrl,Hrr,Hq⟩:=hqq8 htk hown hp1 hp3 hbw hrl hrr hq;clear hu hu' hx hpx htk hown hbw hp1 hp3 hrl hrr hq hp;go_wp2_with (at_builtin;refine bP _ rfl (.tmp 20) (.tmp 32) _ rfl w.heap.size 3 i0 (.int .i64 0) 1 8 Tryz.underlying22 hi0 hz0 hz1 hz2 rfl dC _ k _ rfl Hown2.out rfl rfl (by simp [Value.oneCell']) (by unfold maxLen;omega) oM Hbw.out.size ?_;intro v2 w2 hown2 hg2 hs2 hat2);have hbw2:=aZ Hbw.out Hown2.out hg2 Hbw.out.size;have hl1:∀a,some (⟨b',off',none⟩:Addr)=some a->a.block < _:=fun a ha=>by injection ha with ha;subst ha;exact hbl'
    have hl3:∀a,some (⟨b,off,none⟩:Addr)=some a->a.block < _:=fun a ha=>by injection ha with ha;subst ha;exact hbl
    go_roundw
    case rel=>refine ⟨k+1,by omega,by go_num,?_,hbw2,Hp1.out.next hat2 (fun a ha=>Nat.lt_succ_of_lt (hl1 a ha)),Hp3.out.next hat2 (fun a ha=>Nat.lt_succ_of_lt (hl3 a ha)),aCD Hrl.out hg2 Hp1.out,aCD Hrr.out hg2 Hp3.out⟩;rw [Htk.out,zAz];exact hown2
    case measure=>simp [intOf];omega
  · obtain rfl:n=k:=oM;rw [zAg (by rw [Hsuf.out.len,Hll.out];omega)] at hown;obtain ⟨A',c',rfl,hm'⟩:=aS hown;obtain ⟨Hm',Hbw⟩:=hqq2 hm' hbw;clear hown hm' hbw hp1 hp3 hrl hrr;go_wp2_with fail;go_ret;have hcast:∀L,Made wr w.heap.size 3 1 A' n c' L->Made wr w.heap.size 3 1 A' (m+1) c' L:=fun L h=>by rw [HN.out];exact h
    exact ⟨rs,A',c',Hsuf.out,by rw [HN.out];rfl,hcast _ Hm'.out,Hbw.out⟩
def TreeE (w:World) (F:Nat->Prop) (gt:Nat) (bs:List Bool):Prop:=
 F gt/\∃(ga:Nat) (v:Int),
   (bs= []/\F ga/\Bk w gt 202 #[ga,.slice none 0 0,.int .i64 (-1),.int .i64 v]/\Bk w ga 221 #[.slice none 0 0,.slice none 0 0,.int .i64 268435456])∨
   (bs= []/\∃gl cl l8,F gl/\Bk w gt 202 #[ga,.slice (some ⟨gl,0,none⟩) 1 cl,.int .i64 (-1),.int .i64 v]/\w.ownsRow 0 205 8 (.slice (some ⟨gl,0,none⟩) 1 cl) 1 l8/\ArenaE w F ga [false] [0])∨
   (bs≠ []/\bs.length<=128/\∃gl cl gb,F gl/\F gb/\LeafV w 0 gt ga gl cl gb 0 v bs/\ArenaE w F ga [true] [])
section
variable {w w' : World} {F G : Nat -> Prop} {gt : Nat} {bs : List Bool}
theorem TreeE.at (h:TreeE w F gt bs):TreeAt w gt bs:=by
 obtain ⟨h0,ga,v,⟨h1,h2,h3,h4⟩|⟨h1,gl,cl,l8,h2,h3,h4,h5⟩|⟨h1,h2,gl,cl,gb,h3,h4,h5,h6⟩⟩:=h;exact ⟨ga,v,.inl ⟨h1,_,h3⟩⟩;exact ⟨ga,v,.inl ⟨h1,_,h3⟩⟩;exact ⟨ga,v,.inr ⟨h1,h2,gl,cl,gb,h5⟩⟩
theorem TreeE.le (h:TreeE w F gt bs):bs.length<=128:=by
 obtain ⟨h0,ga,v,⟨h1,h2,h3,h4⟩|⟨h1,gl,cl,l8,h2,h3,h4,h5⟩|⟨h1,h2,gl,cl,gb,h3,h4,h5,h6⟩⟩:=h
 · rw [h1];simp
 · rw [h1];simp
 exact h2
theorem TreeE.vis (h:TreeE w F gt bs) (k:Vis w w'):TreeE w' F gt bs:=by
 obtain ⟨h0,ga,v,⟨h1,h2,h3,h4⟩|⟨h1,gl,cl,l8,h2,h3,h4,h5⟩|⟨h1,h2,gl,cl,gb,h3,h4,h5,h6⟩⟩:=h;obtain ⟨v',h3'⟩:=k.tree h3;exact ⟨h0,ga,v',.inl ⟨h1,h2,h3',k.bk h4 dC dC⟩⟩;obtain ⟨v',h3'⟩:=k.tree h3;exact ⟨h0,ga,v',.inr (.inl ⟨h1,gl,cl,l8,h2,h3',k.own h4 dC dC,h5.vis k⟩)⟩;obtain ⟨v',h5'⟩:=h5.vis k;exact ⟨h0,ga,v',.inr (.inr ⟨h1,h2,gl,cl,gb,h3,h4,h5',h6.vis k⟩)⟩
theorem TreeE.mono (h:TreeE w F gt bs) (k:∀b,b < w.heap.size->F b->G b):TreeE w G gt bs:=by
 obtain ⟨h0,ga,v,⟨h1,h2,h3,h4⟩|⟨h1,gl,cl,l8,h2,h3,h4,h5⟩|⟨h1,h2,gl,cl,gb,h3,h4,h5,h6⟩⟩:=h;exact ⟨k _ h3.lt h0,ga,v,.inl ⟨h1,k _ h4.lt h2,h3,h4⟩⟩;exact ⟨k _ h3.lt h0,ga,v,.inr (.inl ⟨h1,gl,cl,l8,k _ (h4.lt _ rfl).2 h2,h3,h4,h5.mono k⟩)⟩;exact ⟨k _ h5.tree.lt h0,ga,v,.inr (.inr ⟨h1,h2,gl,cl,gb,k _ h5.row.lt.2 h3,k _ h5.blk.lt h4,h5,h6.mono k⟩)⟩
theorem TreeE.keep (h:TreeE w F gt bs) (k:Keep G w w') (hf:∀b t cs,t∈ [202,221,205,230,4,3]->Bk w b t cs->F b->¬G b):TreeE w' F gt bs:=by
 obtain ⟨h0,ga,v,⟨h1,h2,h3,h4⟩|⟨h1,gl,cl,l8,h2,h3,h4,h5⟩|⟨h1,h2,gl,cl,gb,h3,h4,h5,h6⟩⟩:=h;exact ⟨h0,ga,v,.inl ⟨h1,h2,k.bk h3 (hf _ _ _ dC h3 h0),k.bk h4 (hf _ _ _ dC h4 h2)⟩⟩;exact ⟨h0,ga,v,.inr (.inl ⟨h1,gl,cl,l8,h2,k.bk h3 (hf _ _ _ dC h3 h0),aA h4 (fun b cs hb hk=>k.bk hk (hf _ _ _ dC hk (by injection hb with hb;rw [<-hb];exact h2))),h5.keep k fun b t cs ht=>hf b t cs (by simp at ht;rcases ht with rfl | rfl | rfl <;> decide)⟩)⟩;exact ⟨h0,ga,v,.inr (.inr ⟨h1,h2,gl,cl,gb,h3,h4,⟨k.bk h5.tree (hf _ _ _ dC h5.tree h0),aA h5.row (fun b cs hb hk=>k.bk hk (hf _ _ _ dC hk (by injection hb with hb;rw [<-hb];exact h3))),k.bk h5.blk (hf _ _ _ dC h5.blk h4)⟩,h6.keep k fun b t cs ht=>hf b t cs (by simp at ht;rcases ht with rfl | rfl | rfl <;> decide)⟩)⟩
theorem TreeE.below (h:TreeE w F gt bs) (k:Below w.heap.size w w'):TreeE w' F gt bs:=h.keep (G:=fun _=>False) (Keep.of_below k) fun _ _ _ _ _ _ f=>f
end
theorem TreeB.own {w:World} {B gt:Nat} {bs:List Bool} (h:TreeB w B gt bs):TreeE w (fun b=>B<=b) gt bs:=by
 obtain ⟨ga,v,l1,l2,⟨h1,h2,h3⟩|⟨h1,h2,gl,cl,gb,l3,h3⟩⟩:=h;exact ⟨l1,ga,v,.inl ⟨h1,l2,h2,h3⟩⟩
 · obtain ⟨A,c,h4,h5⟩:=h3.arena;refine ⟨l1,ga,v,.inr (.inr ⟨h1,h2,gl,cl,gb,h3.row.lt.1,l3,h3.toV,l2,A,c,none,0,h4,bF h5.own (zAp _),World.ownsRow_nil _ _ _ _,fun b hb=>(h5.own.lt b hb).1,fun b hb=>by cases hb⟩)⟩
theorem LeafV.below {w w':World} {B gt ga gl cl gb:Nat} {rt v:Int} {bs:List Bool} (h:LeafV w B gt ga gl cl gb rt v bs) (k:Below w.heap.size w w'):LeafV w' B gt ga gl cl gb rt v bs:=
 ⟨h.tree.below k h.tree.lt,aP h.row k,h.blk.below k h.blk.lt⟩
theorem ArenaE.own {w:World} {F:Nat->Prop} {ga:Nat} {tk:List Bool} {fr:List Nat} (h:ArenaE w F ga tk fr):∃Fa:Nat->Prop,(∀b,Fa b->F b)/\(∀b t cs,Fa b->Bk w b t cs->t=221∨t=4∨t=3)/\(∀b,Fa b->b < w.heap.size)/\ArenaE w Fa ga tk fr:=by
 obtain ⟨h0,At,ct,Af,cf,h1,h2,h3,h4,h5⟩:=h;have hty:∀ {e:TypeId} {n c b:Nat} {A:Option Addr} {xs:List Value} {t:TypeId} {cs:Array Value},w.ownsRow 0 e 1 (.slice A n c) n xs->(Value.slice A n c).ownBlock=some b->Bk w b t cs->t=e:=fun {e n c b A xs t cs} hr hb hk=>by
  rcases hr.2 with ⟨g1,_⟩|⟨g',cap,cur,g1,_,g3,_⟩
  · rw [g1] at hb;cases hb
  rw [g1] at hb;injection hb with hb;have e1:g'=b:=hb;subst e1;exact (aR hk g3).1
 refine ⟨fun b=>b=ga∨(Value.slice At tk.length ct).ownBlock=some b∨(Value.slice Af fr.length cf).ownBlock=some b,fun b hb=>?_,fun b t cs hb hk=>?_,fun b hb=>?_,.inl rfl,At,ct,Af,cf,h1,h2,h3,fun b hb=>.inr (.inl hb),fun b hb=>.inr (.inr hb)⟩;rcases hb with rfl | hb | hb;exact h0;exact h4 b hb;exact h5 b hb;rcases hb with rfl | hb | hb;exact .inl (aR hk h1).1;exact .inr (.inl (hty h2 hb hk));exact .inr (.inr (hty h3 hb hk));rcases hb with rfl | hb | hb;exact h1.lt;exact (h2.lt b hb).2;exact (h3.lt b hb).2
theorem aDu (n:Nat) (w:World) (hn:n<=2147483648):
 Calls Tryz.prog 88 #[(n:Int),.slice none 0 0] w fun e w'=>∃gp ga,e=.returned (.tuple #[.pointer (some ⟨gp,0,none⟩),.int .i64 0])/\PermAt w' w.heap.size gp ga (.slice none 0 0) (.slice none 0 0) (.slice none 0 0) (.slice none 0 0) n n [] [] [] []/\Below w.heap.size w w':=by
 have h1:¬((n:Int) < 0):=oM;have h2:¬((n:Int) > 2147483648):=oM;go_enter Tryz.func88,Tryz.ntmps88;go_wp2_with fail;refine (tC _).mono ?_;rintro e w1 ⟨rfl,hbk,hb⟩;obtain ⟨Hbk,Hb⟩:=hqq2 hbk hb;have hz:=hbk.lt;clear hbk hb;go_wp2_with fail;refine wp_loop_rounds 1 ?_;rw [rounds_succ];go_wp2_with fail;go_ret2;have hs:=Hb.out.size;exact ⟨_,_,rfl,⟨Bk.new _ _ _,World.ownsRow_nil _ _ _ _,World.ownsRow_nil _ _ _ _,Hbk.out.alloc _,World.ownsRow_nil _ _ _ _,World.ownsRow_nil _ _ _ _,.inl rfl,fun k hk=>(by cases hk),⟨hs,zAs _⟩⟩,Hb.out.alloc hs _⟩
def cT (rs:List Nat) (rate k:Nat):List (Nat×Nat):=((List.range k).filter fun i=>rs.getD i 0 % rate==0).map fun i=>(i,rs.getD i 0)
theorem aD8 (rs:List Nat) (rate k:Nat):cT rs rate (k+1)=if rs.getD k 0 % rate=0 then cT rs rate k++ [(k,rs.getD k 0)] else cT rs rate k:=by
 unfold cT;rw [List.range_succ,List.filter_append,zAz];by_cases h:rs.getD k 0 % rate=0
 · rw [zBx h];simp only [List.filter_cons,h,beq_self_eq_true,if_true,List.filter_nil,List.map_cons,List.map_nil]
 · rw [zBw h];have:(rs.getD k 0 % rate==0)=false:=(by simpa using h);simp only [List.filter_cons,this,Bool.false_eq_true,if_false,List.filter_nil,List.map_nil,List.append_nil]
theorem oI {rs:List Nat} {rate k:Nat} {x:Nat×Nat} (h:x∈cT rs rate k):x.1 < k/\x.2=rs.getD x.1 0:=by
 unfold cT at h;obtain ⟨i,hi,rfl⟩:=zAy.1 h;have:=(zCv.1 hi).1;exact ⟨by simpa using this,rfl⟩
theorem qY (rs:List Nat) (rate k:Nat):(cT rs rate k).Pairwise (fun a b=>a.1 < b.1):=by
 unfold cT;rw [List.pairwise_map];exact List.Pairwise.filter _ List.pairwise_lt_range
theorem aCx {C:List (Nat×Nat)} {k:Nat} (h:k < C.length):(aB C k,aH C k)∈C:=by
 unfold aB aH;rw [zAb,zAa h];exact zBj h
theorem aCw {C:List (Nat×Nat)} (h:C.Pairwise (fun a b=>a.1 < b.1)):(List.range C.length).Pairwise (fun a b=>aB C a < aB C b):=by
 rw [zAr];intro i j hi hj hij;have hi':i < C.length:=by simpa using hi
 have hj':j < C.length:=by simpa using hj
 have:=zAr.1 h i j hi' hj' hij;simp only [List.getElem_range];unfold aB;rw [zAb,zAb,zAa hi',zAa hj'];exact this
theorem Apt.next2 {v v':Value} {A:Option Addr} {N:Nat} (h:Apt v A) (ho:v'.ownBlock=v.ownBlock∨∃g,v'.ownBlock=some g/\N<=g) (hA:∀a,A=some a->a.block < N):Apt v' A:=by
 intro a ha hb;rcases ho with e |⟨g,e,hg⟩;exact h a ha (e.symm.trans hb);rw [e] at hb;injection hb with hb;have:=hA a ha;omega
theorem PermAt.foot {w:World} {B gp ga:Nat} {vl vo vt vf:Value} {R P:Nat} {ks:List Nat} {C:List (Nat×Nat)} {tk:List Bool} {fr:List Nat} (h:PermAt w B gp ga vl vo vt vf R P ks C tk fr) {b:Nat} (hb:PF gp ga vl vo vt b):B<=b:=by
 rcases hb with rfl | rfl | hb | hb | hb;exact h.lo.1;exact h.lo.2;exact (h.lrow.lt _ hb).1;exact (h.orow.lt _ hb).1;exact (h.trow.lt _ hb).1
theorem PermAt.keep {F:Nat->Prop} {w w':World} {B gp ga:Nat} {vl vo vt vf:Value} {R P:Nat} {ks:List Nat} {C:List (Nat×Nat)} {tk:List Bool} {fr:List Nat} (h:PermAt w B gp ga vl vo vt vf R P ks C tk fr) (k:Keep F w w')
 (hf:∀b t cs,F b->Bk w b t cs->t∉ [166,170,3,221,4]):PermAt w' B gp ga vl vo vt vf R P ks C tk fr:=
 ⟨k.bk h.blk (fun f=>hf _ _ _ f h.blk dC),gQ h.lrow k (fun b cs f hb=>hf _ _ _ f hb dC),gQ h.orow k (fun b cs f hb=>hf _ _ _ f hb dC),k.bk h.ar (fun f=>hf _ _ _ f h.ar dC),gQ h.trow k (fun b cs f hb=>hf _ _ _ f hb dC),gQ h.frow k (fun b cs f hb=>hf _ _ _ f hb dC),h.apart,h.lt,h.lo⟩
structure LvInv (w2:World) (B1 B3 gl gk gp ga n rate:Nat) (A3:Option Addr) (c3:Nat) (rs:List Nat) (k:Nat) (vl vo vt:Value) (tk:List Bool) (wr:World):Prop where
 perm:PermAt wr B1 gp ga vl vo vt (.slice none 0 0) n n (List.range (cT rs rate k).length) (cT rs rate k) tk []
 len:tk.length=(cT rs rate k).length
 apt:Apt vo A3
 row:wr.ownsRow B3 3 1 (.slice A3 n c3) n (rs.map sv)
 blk:Bk wr gl 92 #[gk,gp,(rate:Int),.int .i64 0]
 below:Below w2.heap.size w2 wr
structure LiveAt (w:World) (Bw gl gk gp ga:Nat) (vl vo vt:Value) (B n rate:Nat) (L:List Nat) (C:List (Nat×Nat)) (tk:List Bool):Prop where
 blk:Bk w gl 92 #[gk,gp,(rate:Int),.int .i64 0]
 walk:WalkAt w Bw gk L
 perm:PermAt w B gp ga vl vo vt (.slice none 0 0) n n (List.range C.length) C tk []
end
section
open Go.RowKit Go
section
variable {P : Program} {ops : Array Oper} {Q : Exit -> Act -> World -> Prop} {md : Region.Mode}
theorem uB (n:Nat) (ds:List Nat) (C:World->Prop) (S:Nat->World->World->Prop) (U:Nat->World->Prop) (V:Nat->Value->World->Prop) (a0:Act)
 (W0:World) (hds:(ops.toList.take n).filterMap (·.dst)=ds) (hn:n<=ops.size) (hlaid:jB md ops a0.tmps.size=true) (htail:((List.range ops.size).all fun k=>decide (k < n)||(List.range n).all fun i=>upB md ops ops.size k i)=true) (hC0:C W0) (hU0:∀i,U i W0) (hC:∀j w w',j < n->C w->S j w w'->C w')
 (hU:∀i j w w',j < n->i≠j->upB md ops ops.size j i=false->U i w->C w->S j w w'->U i w')
 (hstab:∀i j v w w',j < n->i≠j->vB md ops i j=false->V i v w->C w->S j w w'->V i v w')
 (hstep:∀j o,j < n->ops[j]?=some o->dH P ops Q md C S U V a0 j o)
 (hend:∀(ev:Operand->Value) w f,C w->(∀i d,i < n->((ops[i]?).bind (·.dst))=some d->V i (ev (.tmp d)) w)->(∀i,i < n->∃v,V i v w)->wpAny P md ops Q (ops.size - n+f) (bV n ops.size) (aI ev ds a0) w):
 wpAny P md ops Q ops.size (Array.replicate ops.size false) a0 W0:=by
 refine wJ n C S U V a0 W0 hn hlaid htail hC0 hU0 hC hU hstab hstep fun a w f hS hsz hdf hold hval=>?_;have h1:=hend a.eval w f hS (fun i d hi hd=>by
  cases ho:ops[i]? with
  | none=>rw [ho] at hd;cases hd
  | some o=>
    rw [ho] at hd;obtain ⟨v,h1,h2⟩:=hval i o hi ho;have:=h1 d hd;change V i (a.tmps.getD d undef) w;rw [this];exact h2) (fun i hi=>by
  obtain ⟨v,_,h2⟩:=hval i _ hi (zAq (zAl hi hn));exact ⟨v,h2⟩)
 rw [<-oB a a0 ds hsz hdf fun t ht=>hold t fun k p hk hp hd=>ht ?_] at h1;exact h1;rw [<-hds];refine List.mem_filterMap.2 ⟨p,?_,hd⟩;have hk2:(ops.toList.take n)[k]?=some p:=(by rw [zBs,zBx hk,Array.getElem?_toList];exact hp);exact zAd hk2
end
def VFB (B:Nat) (F:Nat->Prop) (w w':World):Prop:=VisF F w w'/\Keep (fun b=>F b∨B<=b) w w'
theorem fD {B:Nat} {F:Nat->Prop} {w w':World} (h:VFB B F w.drew w'):VFB B F w w':=⟨⟨h.1.os,h.1.tape,h.1.output,h.1.size,h.1.block⟩,⟨h.2.os,h.2.tape,h.2.output,h.2.size,h.2.block⟩⟩
section
variable {B : Nat} {F : Nat -> Prop} {w w1 w' : World}
theorem VFB.of_vb (h:VB B w w'):VFB B F w w':=⟨VisF.of_vis h.1,h.2.mono fun _ _ f=>.inr f⟩
theorem VFB.trans (h:VFB B F w w1) (k:VFB B F w1 w'):VFB B F w w':=⟨h.1.trans k.1,h.2.trans k.2⟩
theorem VFB.put (h:VFB B F w w1) {p:Addr} (hp:F p.block∨w.heap.size<=p.block) (u:Value):VFB B F w (w1.setCell p u):=⟨VisF.put h.1 hp u,h.2.setCell (hp.elim (fun f=>.inl (.inl f)) .inr) u⟩
theorem VFB.to_vb (h:VFB B F w w') (hf:∀b,b < w.heap.size->¬F b):VB B w w':=⟨h.1.to_vis hf,h.2.mono fun b hb f=>f.elim (fun f=>absurd f (hf b hb)) id⟩
end
def aDd (B:Nat) (F:Nat->Prop) (J j:Nat) (w w':World):Prop:=(j=J->VFB B F w w')/\(j≠J->VB B w w')
theorem aAx {B:Nat} {F:Nat->Prop} {J j:Nat} {w w':World} (h:aDd B F J j w w'):VFB B F w w':=by
 by_cases hj:j=J;exact h.1 hj;exact VFB.of_vb (h.2 hj)
theorem aK {B:Nat} {F:Nat->Prop} {J j:Nat} {w w':World} (h:VB B w w'):aDd B F J j w w':=⟨fun _=>VFB.of_vb h,fun _=>h⟩
theorem bZ {P:Program} {ops:Array Oper} {Q:Exit->Act->World->Prop} {md:Region.Mode} (B n:Nat) (ds:List Nat) (F:Nat->Prop) (J:Nat) (rd:List Nat) (pre:World->Prop) (pJ:Value->World->Prop) (l:List (Value->World->Prop)) (a0:Act) (W0:World)
 (hds:(ops.toList.take n).filterMap (·.dst)=ds) (hn:n<=ops.size) (hlaid:jB md ops a0.tmps.size=true) (htail:((List.range ops.size).all fun k=>decide (k < n)||(List.range n).all fun i=>upB md ops ops.size k i)=true)
 (hrd:(rd.all fun i=>i==J||upB md ops ops.size J i)=true)
 (hp0:pre W0) (hp:∀w w',pre w->VFB B F W0 w->VB B w w'->pre w') (hJ:aG4 (VB B) pJ) (hst:∀p∈l,aG4 (VFB B F) p)
 (hstep:∀j o,j < n->ops[j]?=some o->dH P ops Q md (VFB B F W0) (aDd B F J) (fun i w=>rd.contains i=true->pre w) (VsJ J pJ l) a0 j o)
 (hend:∀(ev:Operand->Value) w f,VFB B F W0 w->(∀i d,i < n->((ops[i]?).bind (·.dst))=some d->VsJ J pJ l i (ev (.tmp d)) w)->(∀i,i < n->∃v,VsJ J pJ l i v w)->wpAny P md ops Q (ops.size - n+f) (bV n ops.size) (aI ev ds a0) w):
 wpAny P md ops Q ops.size (Array.replicate ops.size false) a0 W0:=by
 refine uB n ds (VFB B F W0) (aDd B F J) (fun i w=>rd.contains i=true->pre w) (VsJ J pJ l) a0 W0 hds hn hlaid htail (VFB.of_vb vR) (fun _ _=>hp0) (fun j w w' _ h k=>h.trans (aAx k)) (fun i j w w' _ hij hup hi hC k hir=>?_) (fun i j v w w' _ hij _ hv _ k=>?_) hstep hend;by_cases hj:j=J;exfalso;subst hj;have h2:=zBf.1 hrd i (by simpa using hir);simp only [hup,Bool.or_false,zCq] at h2;exact hij h2;exact hp w w' (hi hir) hC (k.2 hj);unfold VsJ at hv⊢;by_cases hi:i=J;rw [zBx hi] at hv⊢;exact hJ v w w' hv (k.2 fun e=>hij (hi.trans e.symm));rw [zBw hi] at hv⊢;exact cL hst i v w w' hv (aAx k)
end
section
open Go.RowKit Go.Shelf
theorem ShelfRow.same {w w':World} {B:Nat} {v:Value} {L:List Nat} {lv m:Nat} (h:ShelfRow w B v L lv m) (k:∀b t cs,Bk w b t cs->Bk w' b t cs):ShelfRow w' B v L lv m:=by
 obtain ⟨G,h1,h2⟩:=h;exact ⟨G,aA h1 fun b cs _ hb=>k _ _ _ hb,fun p hp=>⟨(h2 p hp).1,(h2 p hp).2.same fun b t cs _ hb=>k _ _ _ hb⟩⟩
theorem WalkAt.same {w w':World} {B gk:Nat} {L:List Nat} (h:WalkAt w B gk L) (k:∀b t cs,Bk w b t cs->Bk w' b t cs):WalkAt w' B gk L:=by
 obtain ⟨gv,gt,h1,⟨h0,S,v,h2,h3⟩,h4⟩:=h;exact ⟨gv,gt,k _ _ _ h1,⟨h0,S,v,k _ _ _ h2,fun lv hl=>(h3 lv hl).same k⟩,k _ _ _ h4⟩
def LvW (w:World) (B gl:Nat) (L:List Nat):Prop:=∃gk r1 r2 r3,Bk w gl 92 #[.pointer (some ⟨gk,0,none⟩),r1,r2,r3]/\WalkAt w B gk L
theorem LvW.vis {w w':World} {B gl:Nat} {L:List Nat} (h:LvW w B gl L) (k:Vis w w'):LvW w' B gl L:=by
 obtain ⟨gk,r1,r2,r3,h1,h2⟩:=h;exact ⟨gk,r1,r2,r3,k.bk h1 dC dC,h2.vis k⟩
theorem LvW.same {w w':World} {B gl:Nat} {L:List Nat} (h:LvW w B gl L) (k:∀b t cs,Bk w b t cs->Bk w' b t cs):LvW w' B gl L:=by
 obtain ⟨gk,r1,r2,r3,h1,h2⟩:=h;exact ⟨gk,r1,r2,r3,k _ _ _ h1,h2.same k⟩
theorem LvW.lt {w:World} {B gl:Nat} {L:List Nat} (h:LvW w B gl L):gl < w.heap.size:=by
 obtain ⟨gk,r1,r2,r3,h1,h2⟩:=h;exact h1.lt
theorem LiveAt.lvw {w:World} {Bw gl gk gp ga:Nat} {vl vo vt:Value} {B n rate:Nat} {L:List Nat} {C:List (Nat×Nat)} {tk:List Bool} (h:LiveAt w Bw gl gk gp ga vl vo vt B n rate L C tk):LvW w Bw gl L:=⟨gk,_,_,_,h.blk,h.walk⟩
theorem cB (B gl:Nat) (L:List Nat) (n:Nat) (w:World) (h:LvW w B gl L) (hn:L.length=n+1) (hl:n<=1000000):
 Calls Tryz.prog 37 #[gl] w fun e w'=>e=.returned (.int .i64 (n:Int))/\w=w':=by
 obtain ⟨gk,r1,r2,r3,h1,h2⟩:=h;have c0:=h1.cell 0;have e1:IntKind.i64.wrap (((n+1:Nat):Int) - 1)=(n:Int):=by rw [IntKind.wrap_i64];omega
 clear h1;go_enter Tryz.func37,Tryz.ntmps37;go_wp2_with fail;refine (lB B gk L _ h2).mono ?_;rintro e w' ⟨rfl,rfl⟩;rw [hn];go_wp2_with fail;go_ret;exact ⟨fL oM,rfl⟩
theorem vU (L:List Nat) (s k:Nat):cJ L s k<=L.length:=by
 unfold cJ;have h1:=(List.take_sublist k L).count_le s;have h2:L.countP (fun x=>decide (x < s))+L.count s<=L.length:=by
  induction L with
  | nil=>simp
  | cons x l ih=>
    have:=ih ((List.take_sublist k l).count_le s);rw [zBn,List.count_cons];by_cases h:x < s;have:¬x=s:=oM;simp [h,this];omega;by_cases h':x=s;simp [h,h'];omega;simp [h,h'];omega
 omega
end
section
theorem iK (l:List Nat) (p q:Nat):sufLt l p q↔aN l p < aN l q∨(aN l p=aN l q/\sufLt l (p+1) (q+1)):=by
 constructor
 · rintro ⟨w,k,hk,h1,h2⟩;rcases k with _ | k;exact .inl h2
   · refine .inr ⟨h1 0 oM,w,k,by omega,fun m hm=>?_,?_⟩
     · have:=h1 (m+1) oM;rwa [show p+(m+1)=p+1+m by omega,show q+(m+1)=q+1+m by omega] at this
     · rwa [show p+(k+1)=p+1+k by omega,show q+(k+1)=q+1+k by omega] at h2
 · rintro (h |⟨h0,w,k,hk,h1,h2⟩);exact ⟨1,0,by omega,fun m hm=>absurd hm oM,h⟩
   · refine ⟨w+1,k+1,by omega,fun m hm=>?_,?_⟩
     · rcases m with _ | m;exact h0
       · have:=h1 m oM;rwa [show p+(m+1)=p+1+m by omega,show q+(m+1)=q+1+m by omega]
     · rwa [show p+(k+1)=p+1+k by omega,show q+(k+1)=q+1+k by omega]
theorem tF {R:Nat->Nat->Prop} {P:Nat->Bool} {rs:List Nat} (hs:rs.Pairwise R) (hd:∀x y,R x y->P y=true->P x=true):rs.take (rs.countP P)=rs.filter P:=by
 induction rs with
 | nil=>rfl
 | cons x l ih=>
   obtain ⟨h1,h2⟩:=List.pairwise_cons.1 hs;rw [zBn,List.filter_cons];by_cases hx:P x=true
   · simp only [hx,if_true];rw [List.take_succ_cons,ih h2]
   · have h0:∀y∈l,¬P y=true:=fun y hy hp=>hx (hd x y (h1 y hy) hp);have hc:l.countP P=0:=List.countP_eq_zero.2 h0;have hf:l.filter P= []:=List.filter_eq_nil_iff.2 h0;simp [hx,hc,hf]
theorem IsSuf.count {l rs:List Nat} (h:IsSuf l rs) (P:Nat->Bool):rs.countP P=(List.range l.length).countP P:=h.perm.countP_eq P
theorem bQ {l:List Nat} (h:0 < l.length):bL l 0=l.getD (l.length - 1) 0:=by
 unfold bL;rw [zBi,zBu oM]
theorem bE {l:List Nat} {p:Nat} (h:p+1 < l.length):bL l (p+1)=l.getD p 0:=by
 unfold bL;rw [show p+1+l.length - 1=p+l.length by omega,Nat.add_mod_right,zBu oM]
theorem eZ {l:List Nat} {p:Nat} (h:p < l.length):aN l p=((l.getD p 0:Nat):Int):=by
 rw [aKs h,zAb,zAa h];rfl
theorem gN {m:Nat} (f:Nat->Bool) (g:Nat->Bool) (h0:f 0=g m) (h1:∀p,p < m->f (p+1)=g p):(List.range (m+1)).countP f=(List.range (m+1)).countP g:=by
 rw [List.range_succ_eq_map,zBn,List.countP_map,<-List.range_succ_eq_map,List.range_succ,List.countP_append,zBn,List.countP_nil,zBi,h0];congr 1;refine List.countP_congr fun p hp=>?_;have hp':p < m:=by simpa using hp
 simp [Function.comp,h1 p hp']
theorem tS {α:Type} (l:List α) (f g:α->Bool) (h:∀x∈l,¬(f x=true/\g x=true)):l.countP (fun x=>f x||g x)=l.countP f+l.countP g:=by
 induction l with
 | nil=>rfl
 | cons x l ih=>
   rw [zBn,zBn,zBn,ih (fun y hy=>h y (by simp [hy]))];have:=h x (by simp);cases hf:f x <;> cases hg:g x <;> simp_all <;> omega
structure EndOk (l:List Nat) (m:Nat):Prop where
 len:l.length=m+1
 last:l.getD m 0=0
 pos:∀p,p < m->0 < l.getD p 0
theorem eF (t:List UInt8):EndOk (aG t) t.length:=by
 refine ⟨aT t,?_,fun p hp=>?_⟩
 · unfold aG dF;rw [zAb,zAo (by simp)];simp
 · unfold aG dF;rw [zAb,zAn (by simpa using hp),zAf,zAa hp];simp
end
section
open Go.RowKit
theorem aJh (gt gk gn:Nat) (lv p:Int) (x:Value) (bs:List Bool) (k:Nat) (w:World) (ht:TreeAt w gt bs) (hk:Bk w gk 3 #[(k:Int)]) (hn:Bk w gn 4 #[x]) (hkl:k < bs.length):
 Calls Tryz.prog 112 #[.agg #[gt,.int .i64 lv,.int .i64 p],gk,gn] w fun e w'=>e=.returned (.tuple #[])/\
  ∃w1,VisK (fun b=>b=gt) w w1/\Bk w1 gn 4 #[x]/\w'=w1.setCell ⟨gn,0,none⟩ (.bool (bs.getD k false)):=by
 have c1:w.cell? ⟨gk,0,none⟩=some (.int .i64 (k:Int)):=(hk.cell 0).trans rfl;have l1:=hk.lt;have l3:=hn.lt;obtain ⟨bb,hbb⟩:∃b,bs.getD k false=b:=⟨_,rfl⟩;rw [hbb];obtain ⟨Hbb,Ht,Hn,Hkl⟩:=hqq4 hbb ht hn hkl;clear ht hk hn hbb hkl;go_enter Tryz.func112,Tryz.ntmps112;go_wp2_with fail;refine (aDf gt bs k _ (Ht.out.below (bR.alloc nL _)) Hkl.out).mono ?_;rintro e w1 ⟨rfl,hv⟩;rw [Hbb.out];have hv0:VisK (fun b=>b=gt) w w1:=(VisK.of_below (bR.alloc nL _)).trans hv;have hn1:=hv0.1.bk Hn.out dC dC;have c3:w1.cell? ⟨gn,0,none⟩=some x:=(hn1.cell 0).trans rfl;have f3:=hn1.frozen 0;obtain ⟨HV,Hn1⟩:=hqq2 hv0 hn1;clear hv hv0 hn1;go_wp2_with fail;go_end0;exact ⟨rfl,w1,HV.out,Hn1.out,rfl⟩
theorem aHg (gv gt gk gn:Nat) (S:Nat->Value) (n v lv p:Int) (x:Value) (bs:List Bool) (k:Nat) (w0 w:World) (hw:Bk w gv 154 (wcells S n v)) (ht0:TreeAt w0 gt bs) (hv0:Vis w0 w) (hg0:w0.heap.size<=gn) (hk:Bk w gk 3 #[(k:Int)]) (hn:Bk w gn 4 #[x]) (hkl:k < bs.length):
 Calls Tryz.prog 111 #[gv,.agg #[gt,.int .i64 lv,.int .i64 p],.func (.func 112) #[] #[gk,gn]] w fun e w'=>e=.returned (.tuple #[])/\
  VisF (fun b=>b=gn) w w'/\Keep (fun b=>b=gv∨b=gt∨b=gn) w w'/\Bk w' gn 4 #[.bool (bs.getD k false)]:=by
 have ht:=ht0.vis hv0;obtain ⟨bb,hbb⟩:∃b,bs.getD k false=b:=⟨_,rfl⟩;rw [hbb];obtain ⟨Hbb,Ht0,HV0⟩:=hqq3 hbb ht0 hv0;clear hbb ht0 hv0;obtain ⟨o,ho⟩:=eqx (Obj.cells #[gt,.int .i64 lv,.int .i64 p] 157);have hal:=(Below.refl w.heap.size w).alloc nL o;have hs1:=Bk.new w 157 #[gt,.int .i64 lv,.int .i64 p];rw [ho] at hs1;have l1:=hk.lt;have l3:=hn.lt;have l4:=hw.lt;have n1:=Bk.ne hn hw dC;obtain ⟨Ht,Hn,Hk,Hw,HA,Hs,Ho⟩:=hqq7 ht hn hk hw hal hs1 ho;clear ht hk hn hw hal hs1 ho;go_enter Tryz.func111,Tryz.ntmps111;go_wp2_with fail;rw [Ho.out];refine (aJh gt gk gn lv p x bs k _ (Ht.out.below HA.out) (Hk.out.alloc _) (Hn.out.alloc _) hkl).mono ?_;rintro e w2 ⟨rfl,w1,hv1,hn1,rfl⟩;rw [Hbb.out];obtain ⟨v1,hw1⟩:=((Vis.of_below HA.out).trans hv1.1).waveC Hw.out;have hw2:=hw1.far (p:=⟨gn,0,none⟩) (fun h=>n1 h.symm) (.bool bb);have ht1:=Ht.out.vis ((Vis.of_below HA.out).trans hv1.1);have ht2:TreeAt (w1.setCell ⟨gn,0,none⟩ (.bool bb)) gt bs:=Ht0.out.vis (((HV0.out.trans (Vis.of_below HA.out)).trans hv1.1).fresh (p:=⟨gn,0,none⟩) hg0 _);obtain ⟨vt,hvt⟩:=ht2.visits;have hs2:=(hv1.1.bk Hs.out dC dC).far (p:=⟨gn,0,none⟩) (fun h=>absurd (show w.heap.size=gn from h) oM) (.bool bb);have hnn:=hn1.set 0 (.bool bb);have hfin:VisF (fun b=>b=gn) w (w1.setCell ⟨gn,0,none⟩ (.bool bb)):=VisF.put (F:=fun b=>b=gn) (VisF.of_vis ((Vis.of_below HA.out).trans hv1.1)) (p:=⟨gn,0,none⟩) (.inl rfl) _;have hkp:Keep (fun b=>b=gv∨b=gt∨b=gn) w (w1.setCell ⟨gn,0,none⟩ (.bool bb)):=Keep.setCell (F:=fun b=>b=gv∨b=gt∨b=gn) ((Keep.of_below HA.out).trans (hv1.2.mono fun b _ e=>.inr (.inl e))) (p:=⟨gn,0,none⟩) (.inl (.inr (.inr rfl))) _;obtain ⟨W,hW⟩:=eqx (w1.setCell ⟨gn,0,none⟩ (.bool bb));rw [hW] at hw2 ht2 hvt hs2 hnn hfin hkp⊢;have s0:W.cell? ⟨w.heap.size,0,none⟩=some (.pointer (some ⟨gt,0,none⟩)):=(hs2.cell 0).trans rfl;obtain ⟨Hw2,Hs2,HN,HF,HK,Ht2,Hvt⟩:=hqq7 hw2 hs2 hnn hfin hkp ht2 hvt;have htlt:=ht2.lt;have hslt:=hs2.lt;have hgs:=Bk.ne hw2 hs2 dC;have hgn:=Bk.ne hw2 hnn dC;have hgvt:gt≠gv:=by rintro rfl;obtain ⟨ga,v,⟨_,_,h2⟩|⟨_,_,_,_,_,h3⟩⟩:=Ht2.out;exact absurd (aR h2 Hw2.out).1 dC;exact absurd (aR h3.tree Hw2.out).1 dC
 clear hw2 hs2 hnn hfin hkp ht2 hvt hW hw1 ht1 hn1 hv1 HA Ht Hn Hk Hw Hs s0;go_wp2_with fail;refine wp_region_any kR ?_;refine bH [9,10,11,12,13,14,15,16,17,18] (fun b=>b=gv) 10 [3,10] (fun w2=>Bk w2 gv 154 (wcells S n v1)) (fun _ w2=>Bk w2 gv 154 (wcells S n (IntKind.i64.wrap (v1+vt)))) [is gv,is gv,is (.pointer (some ⟨gv,10,none⟩)),is (.int .i64 v1),is w.heap.size,is gt,is (.int .i64 vt),is (.int .i64 (IntKind.i64.wrap (v1+vt))),is gv,is (.pointer (some ⟨gv,10,none⟩)),cR] _ _ rfl kR kR (Hw2.out) (fun w2 w3 h _ hg=>Bk.below h hg h.lt) (fun _ _ _ h k=>Bk.below h k h.lt) tA0 ?_ ?_
 · refine aM ?_;refine pH3 0 (.pointer (some ⟨gv,0,none⟩)) ?_;refine pV3 0 9 ?_;refine pV3 1 10 ?_;refine sC3 (fun _ w5 _ hU _ _ _ hval _ _ _ hK=>?_) ?_
   · have hpre:=hU rfl;have e11:_=_:=hval 2 11 kR rfl;have c12:w5.cell? ⟨gv,10,none⟩=some (.int .i64 v1):=(hpre.cell 10).trans (bI _ _ _).2.2.2.2.2.2.2.2.2.2;go_simp;exact kq hK rfl
   refine pH3 4 (.pointer (some ⟨w.heap.size,0,none⟩)) ?_;refine sC3 (fun _ w5 hS _ _ _ _ hval _ _ _ hK=>?_) ?_
   · replace hS:Keep (fun b=>b=gv) W w5:=kD hS;have e13:_=_:=hval 4 13 kR rfl;have c14:w5.cell? ⟨w.heap.size,0,none⟩=some (.pointer (some ⟨gt,0,none⟩)):=((hS.bk Hs2.out (fun h=>hgs (show w.heap.size=gv from h).symm)).cell 0).trans rfl;go_simp;exact kq hK rfl
   refine sC3 (fun _ w5 hS _ _ _ _ hval _ _ _ hK=>?_) ?_
   · replace hS:Keep (fun b=>b=gv) W w5:=kD hS;have e14:_=_:=hval 5 14 kR rfl;go_simp;refine (fS gt vt w5 ((hS.cell htlt hgvt).trans Hvt.out)).mono ?_;rintro e w8 ⟨rfl,hb8⟩;exact hK _ _ (aJ hb8) rfl
   refine pW3 3 12 6 15 ?_;refine pV3 0 9 ?_;refine pV3 8 17 ?_;refine sC3 (fun _ w5 _ hU _ _ _ hval _ _ _ hK=>?_) ?_
   · have hpre:=hU rfl;have e18:_=_:=hval 9 18 kR rfl;have e16:_=_:=hval 7 16 kR rfl;have c18:w5.cell? ⟨gv,10,none⟩=some (.int .i64 v1):=(hpre.cell 10).trans (bI _ _ _).2.2.2.2.2.2.2.2.2.2;have f18:=hpre.frozen 10;go_simp;refine hK (.bool true) _ (aW (Keep.setCell (F:=fun b=>b=gv) (Keep.refl _ _) (p:=⟨gv,10,none⟩) (.inl rfl) _)) ?_;rw [<-cO S n v1];exact hpre.set 10 _
   exact aC
 · intro ev w6 hS hval hall;replace hS:Keep (fun b=>b=gv) W w6:=kD hS;obtain ⟨vJ,pJ⟩:∃vJ0,(fun _ w2=>Bk w2 gv 154 (wcells S n (IntKind.i64.wrap (v1+vt)))) vJ0 w6:=hall 10 dC;simp only [aI,zq1,zq2,Act.put,zq3,zq4,zq5];clear hval hall;have hv6:=Vis.of_wave hS Hw2.out pJ;have h1:=VisF.trans HF.out (VisF.of_vis hv6);have h2:=HK.out.trans (hS.mono fun b _ e=>.inl e);have h3:=hS.bk HN.out (fun e=>hgn (show gn=gv from e).symm);obtain ⟨H1,H2,H3⟩:=hqq3 h1 h2 h3;clear hv6 h1 h2 h3 pJ hS;go_wp2_with fail;go_end0;exact ⟨rfl,H1.out,H2.out,H3.out⟩
end
end Go.Proofs.YthldmddkfbijhaaGreatDoor
