/- The walk of snap.Load of what Save tells. Conditions: a text of at most 127 bytes. Two texts side by side: what an edit of the one leaves of the other. No conditions. The walk of live's Set. Conditions: at most 127 bytes ahead; a rate from 1 to 64. -/
import Derived.Test.YtipaccakmndkgaaGreatDoorPsl41
import Derived.Test.YtipaccakmndkgaaGreatDoorPsl25
import Derived.Test.YtipaccakmndkgaaGreatDoorPsl36
import Derived.Test.YtipaccakmndkgaaGreatDoorPsl31
import Derived.Test.YtipaccakmndkgaaGreatDoorPsl7
set_option linter.unusedVariables false
set_option linter.unusedSimpArgs false
set_option maxRecDepth 100000
set_option maxHeartbeats 4000000
namespace Go.Proofs.YtipaccakmndkgaaGreatDoor
open Go.RowKit
def headC (most rate N:Nat):Array Value:=#[.int .i64 (most:Int),.int .i64 (rate:Int),.int .i64 (N:Int)]
theorem results_tct {P:Program} {fn:Func} {a p b:Tmp} {ty:TypeId} (h:fn.results=#[.tmp a,.cell p ty,.tmp b]) (tmps:Array Value) (w:World) (g:Nat) (t:TypeId) (cs:Array Value) (fr:Nat×Nat) (d:TypeDesc)
 (hp:tmps.getD p undef=.pointer (some ⟨g,0,none⟩)) (hg:w.heap[g]?=some (.cells cs t fr))
 (hu:P.underlying ty=some d) (hd:(match d with | .struct _ | .array _ _=>true | _=>false)=true) (hi:(P.info? ty).map (·.size)=some cs.size):
 (results fn tmps).run P w=.ok (.tuple #[tmps.getD a undef,.agg cs,tmps.getD b undef]) w:=by
 have hp':tmps[p]?.getD undef=.pointer (some ⟨g,0,none⟩):=by simpa using hp
 simp [results,h,hp',asAddr,run_loadVar_row w g t ty cs fr d hg hu hd hi]
def LoadPost (w:World) (t:List UInt8) (rate most:Nat) (e:Ending) (w':World):Prop:=
 ∃gl,e=.returned (.tuple #[.pointer (some ⟨gl,0,none⟩),.agg (headC most rate t.length),.int .i64 0])∧(∃own,LiveE w' w.heap.size own gl t rate)∧VB w.heap.size w w'
theorem bk_type {w:World} {b:Nat} {t t':TypeId} {cs cs':Array Value} (h:Bk w b t cs) (h':Bk w b t' cs'):t=t':=by
 unfold Bk at h h'
 rw [h] at h'
 injection h' with h'
 injection h' with _ ht
theorem load_ret {w w':World} {tmps:Array Value} {g gl rate most N:Nat} {t:List UInt8} (hp:tmps.getD 3 undef=.pointer (some ⟨g,0,none⟩)) (h2:tmps.getD 2 undef=.pointer (some ⟨gl,0,none⟩)) (h4:tmps.getD 4 undef=.int .i64 0) (hb:Bk w' g 43 (headC most rate N))
 (ht:∃own,LiveE w' w.heap.size own gl t rate) (hv:VB w.heap.size w w'):
 bodyPost Tryz.prog Tryz.f24 (fun e w'=>∃gl,e=.returned (.tuple #[.pointer (some ⟨gl,0,none⟩),.agg (headC most rate N),.int .i64 0])∧(∃own,LiveE w' w.heap.size own gl t rate)∧VB w.heap.size w w') .ret ⟨tmps, []⟩ w':=by
 have hr:=results_tct (P:=Tryz.prog) (fn:=Tryz.f24) (a:=2) (p:=3) (b:=4) (ty:=43) rfl tmps w' g 43 (headC most rate N) (0,0) _ hp hb Tryz.underlying43 rfl (by kernel_rfl)
 rw [h2,h4] at hr
 exact bodyPost_ret hr rfl ⟨gl,rfl,ht,hv⟩
theorem SnapLoad_any (A:Option Addr) (c Bs most rate:Nat) (t:List UInt8) (rs:List Nat) (w:World) (hs:IsSuf (symL t) rs) (hn:t.length≤127) (hr1:1≤rate) (hr2:rate≤64) (hm1:t.length≤most) (hm2:most≤2147483648)
 (hr:Rd w Bs 1 A (snapB (lastL (symL t) rs) rs most rate t.length).length ((snapB (lastL (symL t) rs) rs most rate t.length).map bv)) (hB:Bs≤w.heap.size) (hcl:(snapB (lastL (symL t) rs) rs most rate t.length).length≤c) (hcm:c≤maxLen):
 Calls Tryz.prog 24 #[.slice A (snapB (lastL (symL t) rs) rs most rate t.length).length c] w (LoadPost w t rate most):=by
 obtain ⟨L,hL⟩:∃L,lastL (symL t) rs=L:=⟨_,rfl⟩
 rw [hL] at hr hcl⊢
 have hlt:=lastL_lt (rs:=rs) (symL_lt t)
 have hlen:L.length=t.length+1:=by rw [←hL,lastL_len,hs.len,symL_len]
 rw [hL] at hlt
 obtain ⟨N,hN⟩:∃N,t.length=N:=⟨_,rfl⟩
 unfold LoadPost
 rw [hN] at hr hcl hlen hm1 hn⊢
 obtain ⟨bd,hbd⟩:∃b,bodyB L rs most rate N=b:=⟨_,rfl⟩
 obtain ⟨p1,p2,p3,p4,p5,hat,hp5⟩:=SnAt.of L rs most rate N
 rw [hbd] at hat hp5
 have hsn:snapB L rs most rate N=bd++fixB (crcB bd):=by unfold snapB;rw [hbd]
 have hsl:(snapB L rs most rate N).length=p5+4:=by rw [hsn,List.length_append,hp5,fixB_len]
 rw [hsl] at hr hcl⊢
 have hp54:4≤p5:=by
  have:=hat.h1
  have:=hat.h2
  have:=hat.h3
  have:=hat.h4
  have:=hat.h5
  omega
 have h8:¬(p5+4 < 8):=by omega
 have hp5m:p5≤10000:=by
  have h1:=hat.h1
  have h2:=hat.h2
  have h3:=hat.h3
  have h4:=hat.h4
  have h5:=hat.h5
  have e1:=encB_len most
  have e2:=encB_len rate
  have e3:=encB_len N
  have e4:=encB_len (firstB L).length
  have e5:=encB_len (secB rs rate N).length
  have e6:=firstB_len L
  have e7:=secK_len rs rate (N / rate+1)
  have e8:N / rate≤N:=Nat.div_le_self _ _
  rw [←secB_eq] at e7
  rw [partB_len] at h4 h5
  omega
 have hrb:=(hr.cut_hi0 (k:=p5) (cap:=c) (by omega))
 have hcr:=crcB_lt bd
 have htk:((snapB L rs most rate N).map bv).take (p5*1)=bd.map bv:=by
  rw [←List.map_take,hsn,Nat.mul_one,List.take_left' hp5]
 rw [htk] at hrb
 have hofb:=ofB_fix bd [] (crcB bd) hcr
 rw [List.append_nil,←hsn,hp5] at hofb
 have hcof:∀(A AP:Option Addr) (n c cp:Nat) (w:World),Rd w w.heap.size 1 A n (bd.map bv)→n≤1099511627776→Rd w w.heap.size 1 AP 1 [.slice A n c]→Calls Tryz.prog 77 #[.slice AP 1 cp] w fun e w'=>e=.returned (.int .u32 ((crcB bd:Nat):Int))∧Below w.heap.size w w':=fun A AP n c cp w h1 h2 h3=>CrcOf_any A AP n c cp bd w h1 h2 h3
 obtain ⟨sm,hsm⟩:∃x,crcB bd=x:=⟨_,rfl⟩
 rw [hsm] at hofb hcof
 have Hcof:=lhd hcof
 clear hcof
 have Hr:=lhd hr
 have Hrb:=lhd hrb
 have Hat:=lhd hat
 have Hlt:=lhd hlt
 have Hlen:=lhd hlen
 have HL:=lhd hL
 have HN:=lhd hN
 have Hs:=lhd hs
 have Hsn:=lhd hsn
 have Hbd:=lhd hbd
 have Hp5:=lhd hp5
 have Hofb:=lhd hofb
 have Hsl:=lhd hsl
 clear hr hrb hat hlt hlen hL hN hs hsn hbd hp5 htk hofb hsl hcr hsm
 have kc:=run_cut_hi (P:=Tryz.prog) 23 5 1 Tryz.underlying23 (fun w=>by kernel_rfl) A (p5+4) c p5 (by omega)
 have e1:IntKind.i64.wrap (((p5+4:Nat):Int) - 4)=(p5:Int):=by rw [IntKind.wrap_i64];omega
 go_enter Tryz.func24,Tryz.ntmps24
 go_wp2_with fail
 obtain ⟨gh,hgh⟩:∃g,w.heap.size=g:=⟨_,rfl⟩
 have hh0:Bk (w.alloc (.cells #[.int .i64 0,.int .i64 0,.int .i64 0] 43)) gh 43 #[.int .i64 0,.int .i64 0,.int .i64 0]:=hgh ▸ Bk.new _ _ _
 have hbl0:Below w.heap.size w (w.alloc (.cells #[.int .i64 0,.int .i64 0,.int .i64 0] 43)):=(Below.refl _ _).alloc (Nat.le_refl _) _
 have hs0:(w.alloc (.cells #[.int .i64 0,.int .i64 0,.int .i64 0] 43)).heap.size=gh+1:=by simp [hgh]
 rw [hgh] at hbl0 hB⊢
 generalize w.alloc (.cells #[.int .i64 0,.int .i64 0,.int .i64 0] 43)=W0 at hh0 hbl0 hs0⊢
 have Hh0:=lhd hh0
 have Hb0:=lhd hbl0
 clear hh0 hbl0
 refine (Of_is A (p5+4) c (snapB L rs most rate N) (p5:Int) Bs W0 sm 0 Hofb.out (Hr.out.below (Hb0.out.mono hB)) (by unfold maxLen;omega)).mono ?_
 rintro e w1 ⟨rfl,rfl⟩
 go_wp2_with fail
 have hR1:=Hrb.out.below (Hb0.out.mono hB)
 refine (Hcof.out (cutA A c 0 1) _ p5 c _ _ (((hR1.mono (by omega:Bs≤W0.heap.size)).alloc (Nat.le_refl _) _).mono (by simp)) (by omega) (Rd.made' _ _ 1 1 _ _ rfl hs0.symm)).mono ?_
 rintro e w2 ⟨rfl,hb2⟩
 have hb02:=((Below.refl W0.heap.size W0).alloc (Nat.le_refl _) (.cells #[.slice (cutA A c 0 1) p5 c] 23)).trans (hb2.mono (by simp))
 have hs2:=hb02.size
 have Hb2:=lhd (Hb0.out.trans (hb02.mono (by omega)))
 have Hh2:=lhd (Hh0.out.below hb02 Hh0.out.lt)
 clear hb2 hb02 Hb0 Hh0 hR1
 go_wp2_with fail
 have hrd:∀wX,Below gh w wX→Rd wX Bs 1 (cutA A c 0 1) p5 (bd.map bv):=fun wX h=>Hrb.out.below (h.mono hB)
 have Hrd:=lhd hrd
 obtain ⟨gr,hgr⟩:∃g,w2.heap.size=g:=⟨_,rfl⟩
 have hr0:Bk (w2.alloc (.cells #[.slice (cutA A c 0 1) p5 c,.int .i64 4,.bool false] 123)) gr 123 (rdrC (cutA A c 0 1) p5 c 4):=hgr ▸ Bk.new _ _ _
 have hbl3:=Hb2.out.alloc (by omega) (.cells #[.slice (cutA A c 0 1) p5 c,.int .i64 4,.bool false] 123)
 have hh3:=Hh2.out.alloc (.cells #[.slice (cutA A c 0 1) p5 c,.int .i64 4,.bool false] 123)
 have hsz3:gr < (w2.alloc (.cells #[.slice (cutA A c 0 1) p5 c,.int .i64 4,.bool false] 123)).heap.size:=hr0.lt
 have hgrg:gh < gr:=by omega
 rw [hgr]
 generalize w2.alloc (.cells #[.slice (cutA A c 0 1) p5 c,.int .i64 4,.bool false] 123)=W2 at hr0 hbl3 hh3 hsz3⊢
 have Hr0:=lhd hr0
 have Hbl3:=lhd hbl3
 have Hh3:=lhd hh3
 have hkb:∀(wX wY:World),Below gh w wX→gr < wX.heap.size→Keep (fun b=>b=gr) wX wY→Below gh w wY:=fun wX wY h1 h2 h3=>h1.trans (h3.to_below (by omega) (fun b hb e=>by omega))
 have Hkb:=lhd hkb
 clear hrd hgr hr0 hbl3 hh3 hkb Hb2 Hh2 Hcof hs2 hs0
 have hmx:p5≤c:=by omega
 refine (Number_any gr (cutA A c 0 1) p5 c Bs 4 p1 most 2147483648 bd W2 Hr0.out (Hrd.out _ Hbl3.out) hmx hcm (Hat.out.n1 (by omega)) (by omega) (by omega)).mono ?_
 rintro e w3 ⟨rfl,hr3,hk3⟩
 have Hr3:=lhd hr3
 have Hbl4:=lhd (Hkb.out _ _ Hbl3.out hsz3 hk3)
 have Hh4:=lhd (hk3.bk Hh3.out (by omega))
 have hsz4:gr < w3.heap.size:=hr3.lt
 clear hr3 hk3 Hr0 Hbl3 Hh3 hsz3
 go_wp2_with fail
 refine (Number_any gr (cutA A c 0 1) p5 c Bs p1 p2 rate 64 bd w3 Hr3.out (Hrd.out _ Hbl4.out) hmx hcm (Hat.out.n2 (by omega)) (by omega) (by omega)).mono ?_
 rintro e w4 ⟨rfl,hr4,hk4⟩
 have Hr4:=lhd hr4
 have Hbl5:=lhd (Hkb.out _ _ Hbl4.out hsz4 hk4)
 have Hh5:=lhd (hk4.bk Hh4.out (by omega))
 have hsz5:gr < w4.heap.size:=hr4.lt
 clear hr4 hk4 Hr3 Hbl4 Hh4 hsz4
 go_wp2_with fail
 refine (Number_any gr (cutA A c 0 1) p5 c Bs p2 p3 N 2147483648 bd w4 Hr4.out (Hrd.out _ Hbl5.out) hmx hcm (Hat.out.n3 (by omega)) (by omega) (by omega)).mono ?_
 rintro e w5 ⟨rfl,hr5,hk5⟩
 have Hr5:=lhd hr5
 have Hbl6:=lhd (Hkb.out _ _ Hbl5.out hsz5 hk5)
 have Hh6:=lhd (hk5.bk Hh5.out (by omega))
 have hsz6:gr < w5.heap.size:=hr5.lt
 clear hr5 hk5 Hr4 Hbl5 Hh5 hsz5
 go_wp2_with fail
 obtain ⟨gH,hgH⟩:∃g,w5.heap.size=g:=⟨_,rfl⟩
 have hH0:Bk (w5.alloc (.cells #[.int .i64 (most:Int),.int .i64 (rate:Int),.int .i64 (N:Int)] 43)) gH 43 (headC most rate N):=hgH ▸ Bk.new _ _ _
 have hbl7:=Hbl6.out.alloc (by omega) (.cells #[.int .i64 (most:Int),.int .i64 (rate:Int),.int .i64 (N:Int)] 43)
 have hh7:=Hh6.out.alloc (.cells #[.int .i64 (most:Int),.int .i64 (rate:Int),.int .i64 (N:Int)] 43)
 have hr7:=Hr5.out.alloc (.cells #[.int .i64 (most:Int),.int .i64 (rate:Int),.int .i64 (N:Int)] 43)
 have hgHr:gr < gH:=by omega
 rw [hgH]
 generalize w5.alloc (.cells #[.int .i64 (most:Int),.int .i64 (rate:Int),.int .i64 (N:Int)] 43)=W5 at hH0 hbl7 hh7 hr7⊢
 have hsz7:gr < W5.heap.size:=hr7.lt
 have HH0:=lhd hH0
 have Hbl7:=lhd hbl7
 have Hh7:=lhd hh7
 have Hr7:=lhd hr7
 clear hgH hH0 hbl7 hh7 hr7 Hbl6 Hh6 Hr5 hsz6
 obtain ⟨k1,hk1⟩:∃k,(firstB L).length=k:=⟨_,rfl⟩
 obtain ⟨k2,hk2⟩:∃k,(secB rs rate N).length=k:=⟨_,rfl⟩
 have hk1l:=firstB_len L
 have hk2l:=secK_len rs rate (N / rate+1)
 have hk2g:=secK_ge rs rate (N / rate+1)
 have hNd:N / rate≤N:=Nat.div_le_self _ _
 rw [←secB_eq,hk2] at hk2l hk2g
 rw [hk1,Hlen.out] at hk1l
 obtain ⟨q1,hq1,hq1e,hq1t,hq1l⟩:=Hat.out.f1 (by omega)
 obtain ⟨q2,hq2,hq2e,hq2t,hq2l⟩:=Hat.out.f2 (by omega)
 rw [hk1] at hq1 hq1e hq1t
 rw [hk2] at hq2 hq2e hq2t
 rw [Hp5.out] at hq1l hq2l
 refine (ReadPart_any gr (cutA A c 0 1) p5 c Bs p3 q1 k1 p4 bd W5 Hr7.out (Hrd.out _ Hbl7.out) hmx hcm (by omega) hq1 hq1e (by omega)).mono ?_
 rintro e w6 ⟨rfl,hr6,hk6⟩
 have Hr6:=lhd hr6
 have Hbl8:=lhd (Hkb.out _ _ Hbl7.out hsz7 hk6)
 have Hh8:=lhd (hk6.bk Hh7.out (by omega))
 have HH8:=lhd (hk6.bk HH0.out (by omega))
 have hsz8:gr < w6.heap.size:=hr6.lt
 clear hr6 hk6 Hr7 Hbl7 Hh7 HH0 hsz7
 go_wp2_with fail
 refine (ReadPart_any gr (cutA A c 0 1) p5 c Bs p4 q2 k2 p5 bd w6 Hr6.out (Hrd.out _ Hbl8.out) hmx hcm (by omega) hq2 (by omega) (by omega)).mono ?_
 rintro e w7 ⟨rfl,hr7,hk7⟩
 have d2:w7.cell? ⟨gr,2,none⟩=some (.bool false):=hr7.cell 2
 have Hbl9:=lhd (Hkb.out _ _ Hbl8.out hsz8 hk7)
 have Hh9:=lhd (hk7.bk Hh8.out (by omega))
 have hH9:=hk7.bk HH8.out (by omega)
 have HH9:=lhd hH9
 have g0:w7.cell? ⟨gH,0,none⟩=some (.int .i64 (most:Int)):=hH9.cell 0
 have g1:w7.cell? ⟨gH,1,none⟩=some (.int .i64 (rate:Int)):=hH9.cell 1
 have g2:w7.cell? ⟨gH,2,none⟩=some (.int .i64 (N:Int)):=hH9.cell 2
 clear hr7 hk7 Hr6 Hbl8 Hh8 HH8 hsz8 hH9
 have r1:¬((rate:Int) < 1):=by omega
 have r2:decide ((rate:Int) < 1)=false:=decide_eq_false r1
 have r3:¬((N:Int) > (most:Int)):=by omega
 have r4:decide ((N:Int) > (most:Int))=false:=decide_eq_false r3
 have r5:decide (most < N)=false:=decide_eq_false (by omega)
 go_wp2_with fail
 have hrf:=((Hrd.out _ Hbl9.out).cut (k:=q1) (cap:=c) (by omega) hmx).cut_hi (k:=k1) (by omega)
 have hft:((bd.map bv).drop (q1*1)).take (k1*1)=(firstB L).map bv:=by
  rw [Nat.mul_one,Nat.mul_one,←List.map_drop,←List.map_take,hq1t]
 rw [hft] at hrf
 have hgb:=getRuns_back (symsI L) (symsI_ok Hlt.out) (by rw [symsI_len,Hlen.out];omega) ((N:Int)+1) (by rw [symsI_len,Hlen.out];omega) []
 rw [List.append_nil,if_pos rfl] at hgb
 refine (RunGet_is (cutA (cutA A c 0 1) c q1 1) k1 (c - q1) Bs (firstB L) ((N:Int)+1) w7 (symsI L) (N+1) 0 hgb (by rw [symsI_len,Hlen.out]) hrf (by have:=Hbl9.out.size;omega) (by omega) (by omega) (by omega) (by omega)).mono ?_
 rintro e w8 ⟨A8,c8,rfl,hm8,hb8⟩
 have hm8r:=hm8.rd
 rw [←sv_iv] at hm8r
 have hbk:=SortedBack_any A8 c8 w8.heap.size t rs w8 Hs.out (by rw [HL.out,HN.out];exact hm8r) (Nat.le_refl _) (by rw [HN.out];omega)
 rw [HN.out] at hbk
 have hgHl:gH < w7.heap.size:=HH9.out.lt
 have Hbl10:=lhd (Hbl9.out.trans (hb8.mono (by have:=Hbl9.out.size;omega)))
 have Hh10:=lhd (Hh9.out.below hb8 Hh9.out.lt)
 have HH10:=lhd (HH9.out.below hb8 HH9.out.lt)
 clear hm8 hb8 hm8r hgb hft hrf g0 g1 g2 d2 r1 r2 r3 r4 r5 hq1 hq2 hq1t hq2t HH9 Hh9 Hbl9 Hrd Hkb Hat hgHl
 go_wp2_with fail
 refine hbk.mono ?_
 clear hbk
 rintro e w9 ⟨A9,c9,rfl,hm9,hb9⟩
 have hH11:=HH10.out.below hb9 HH10.out.lt
 have Hbl11:=lhd (Hbl10.out.trans (hb9.mono (by have:=Hbl10.out.size;omega)))
 have Hh11:=lhd (Hh10.out.below hb9 Hh10.out.lt)
 have HH11:=lhd hH11
 have Hm9:=lhd hm9.rd
 have g1:w9.cell? ⟨gH,1,none⟩=some (.int .i64 (rate:Int)):=hH11.cell 1
 clear hb9 hm9 hH11 Hbl10 Hh10 HH10
 go_wp2_with fail
 have hnew:=LiveNewE_any rate (some ⟨w9.heap.size,0,none⟩) 1 1 (w9.heap.size+1) [(⟨A9,N,c9,t⟩:Sl)] t N (by simp [catS]) HN.out (w9.alloc (.cells #[.slice A9 N c9] 23)) ((Rd.made w9 _ 1 1 _ rfl).mono (by simp)) (by
  intro s hs
  simp at hs
  subst hs
  exact (Hm9.out.alloc (Nat.le_refl _) _).mono (by omega)) (by simp) (by omega) hn hr1 hr2
 refine hnew.mono ?_
 clear hnew
 rintro e w10 ⟨gl,ownl,rfl,hgl,hla,hb10⟩
 have HlaE:=lhd hla
 obtain ⟨gk,gp,mvl,Tl,rs',prl,htx,_,_⟩:=hla
 have hs':=htx.suf
 have hrtl:=htx.right
 have hrs:=hs'.unique Hs.out
 subst hrs
 have hla:=htx.live.g htx.tal
 rw [HL.out,HN.out] at hla
 have hb910:=((Below.refl w9.heap.size w9).alloc (Nat.le_refl _) (.cells #[.slice A9 N c9] 23)).trans (hb10.mono (by simp))
 have hH12:=HH11.out.below hb910 HH11.out.lt
 have Hbl12:=lhd (Hbl11.out.trans (hb910.mono (by have:=Hbl11.out.size;omega)))
 have Hh12:=lhd (Hh11.out.below hb910 Hh11.out.lt)
 have HH12:=lhd hH12
 have g0:w10.cell? ⟨gH,0,none⟩=some (.int .i64 (most:Int)):=hH12.cell 0
 have hgl9:gH < w9.heap.size:=HH11.out.lt
 have hgh9:gh < w9.heap.size:=Hh11.out.lt
 have Hla:=HlaE
 have Hs':=lhd hs'
 rw [World.size_alloc] at hla
 have hs910:w9.heap.size+1≤w10.heap.size:=by have:=hb10.size;simpa using this
 have hsave:=SnapSave_any (w9.heap.size+1) gl gk gp rate most t rs' prl w10 (by rw [HL.out,HN.out];exact hla) hrtl hs' (by rw [HN.out];omega) hr1 hr2 (by rw [HN.out];omega) hm2
 unfold SavePost at hsave
 rw [HL.out,HN.out,Hsl.out] at hsave
 have hb8s:=Hbl12.out.size
 clear hla hs' htx hrtl HlaE hb10 hb910 hH12 g1 Hbl11 Hh11 HH11 Hm9 hgl
 go_wp2_with fail
 refine hsave.mono ?_
 clear hsave
 rintro e w11 ⟨A11,c11,rfl,hm11,hv11⟩
 have hk11:Below (w9.heap.size+1) w10 w11:=hv11.2.to_below hs910 (fun b hb e=>by omega)
 have hw11:=hv11.1.size
 have hH13:Bk w11 gH 43 (headC most rate N):=HH12.out.below hk11 (by omega)
 have hh13:Bk w11 gh 43 #[.int .i64 0,.int .i64 0,.int .i64 0]:=Hh12.out.below hk11 (by omega)
 have Hbl13:=lhd (Hbl12.out.trans (hk11.mono (by omega)))
 have heq:=BytesEqual_any A11 A (p5+4) (p5+4) c11 c w11.heap.size (snapB L rs' most rate N) (snapB L rs' most rate N) w11 hm11.rd ((Hr.out.below (Hbl13.out.mono hB)).mono (by omega))
 rw [beq_self_eq_true] at heq
 have HH13:=lhd hH13
 have Hh13:=lhd hh13
 have Hla13:=lhd (Hla.out.vis hv11.1)
 clear hm11 hv11 hk11 hH13 hh13 Hbl12 Hh12 HH12 g0 Hla
 go_wp2_with fail
 refine heq.mono ?_
 clear heq
 rintro e w12 ⟨rfl,hb12⟩
 have hH14:=HH13.out.below hb12 HH13.out.lt
 have hh14:=Hh13.out.below hb12 Hh13.out.lt
 have Hbl14:=lhd (Hbl13.out.trans (hb12.mono (by omega)))
 have Hla14:=lhd (Hla13.out.vis (Vis.of_below hb12))
 have HH14:=lhd hH14
 have Hh14:=lhd hh14
 clear hb12 hH14 hh14 Hbl13 HH13 Hh13 Hla13
 go_wp2_with fail
 have g0:w12.cell? ⟨gH,0,none⟩=some (.int .i64 (most:Int)):=HH14.out.cell 0
 have g1:w12.cell? ⟨gH,1,none⟩=some (.int .i64 (rate:Int)):=HH14.out.cell 1
 have g2:w12.cell? ⟨gH,2,none⟩=some (.int .i64 (N:Int)):=HH14.out.cell 2
 have j0:w12.cell? ⟨gh,0,none⟩=some (.int .i64 0):=Hh14.out.cell 0
 have j1:w12.cell? ⟨gh,1,none⟩=some (.int .i64 0):=Hh14.out.cell 1
 have j2:w12.cell? ⟨gh,2,none⟩=some (.int .i64 0):=Hh14.out.cell 2
 have f0:=Hh14.out.frozen 0
 have f1:=Hh14.out.frozen 1
 have f2:=Hh14.out.frozen 2
 have hfin:Bk ((((w12.setCell ⟨gh,0,none⟩ (.int .i64 (most:Int))).setCell ⟨gh,1,none⟩ (.int .i64 (rate:Int))).setCell ⟨gh,2,none⟩ (.int .i64 (N:Int))).drew) gh 43 (headC most rate N):=by
  have:=(((Hh14.out.set 0 (.int .i64 (most:Int))).set 1 (.int .i64 (rate:Int))).set 2 (.int .i64 (N:Int))).drew
  simpa [headC] using this
 have hbfin:Below gh w ((((w12.setCell ⟨gh,0,none⟩ (.int .i64 (most:Int))).setCell ⟨gh,1,none⟩ (.int .i64 (rate:Int))).setCell ⟨gh,2,none⟩ (.int .i64 (N:Int))).drew):=
  (((Hbl14.out.setCell (p:=⟨gh,0,none⟩) (Nat.le_refl _) _).setCell (p:=⟨gh,1,none⟩) (Nat.le_refl _) _).setCell (p:=⟨gh,2,none⟩) (Nat.le_refl _) _).drew
 have hsame:∀b t cs,t≠43→Bk w12 b t cs→Bk ((((w12.setCell ⟨gh,0,none⟩ (.int .i64 (most:Int))).setCell ⟨gh,1,none⟩ (.int .i64 (rate:Int))).setCell ⟨gh,2,none⟩ (.int .i64 (N:Int))).drew) b t cs:=fun b t cs ht hb=>by
  have hne:b≠gh:=fun e=>by
   subst e
   exact ht (bk_type hb Hh14.out)
  exact (((hb.far (p:=⟨gh,0,none⟩) hne _).far (p:=⟨gh,1,none⟩) hne _).far (p:=⟨gh,2,none⟩) hne _).drew
 have hkfin:Keep (fun b=>b=gh) w12 ((((w12.setCell ⟨gh,0,none⟩ (.int .i64 (most:Int))).setCell ⟨gh,1,none⟩ (.int .i64 (rate:Int))).setCell ⟨gh,2,none⟩ (.int .i64 (N:Int))).drew):=
  (((((Keep.refl (fun b=>b=gh) w12).setCell (p:=⟨gh,0,none⟩) (.inl rfl) _).setCell (p:=⟨gh,1,none⟩) (.inl rfl) _).setCell (p:=⟨gh,2,none⟩) (.inl rfl) _)).drew
 have hlaf:=(Hla14.out.far0 hkfin fun b e=>by
  have e':b=gh:=e
  subst e'
  by_cases c:ownl b=0
  · exact c
  · have:=(Hla14.out.bnd b c).1
    rw [World.size_alloc] at this
    omega).low (B':=gh) (by rw [World.size_alloc];omega)
 have Hfin:=lhd hfin
 have Hbfin:=lhd hbfin
 have Htfin:=lhd hlaf
 clear hfin hbfin hsame hlaf hkfin
 go_region
 go_wp2_with fail
 subst hgh
 refine load_ret rfl rfl rfl Hfin.out ⟨_,Htfin.out⟩ (VisK.of_below Hbfin.out)
end Go.Proofs.YtipaccakmndkgaaGreatDoor
namespace Go.Proofs.YtipaccakmndkgaaGreatDoor
open Go.RowKit
open Classical in
theorem VisF.split {G:Nat→Prop} {w w':World} (h:VisF G w w'):∃w1,Keep G w w1∧Vis w1 w':=by
 let hp:Array Obj:=Array.ofFn (n:=w'.heap.size) fun i=>if hb:i.val < w.heap.size∧¬G i.val then w.heap[i.val]'hb.1 else w'.heap[i.val]
 have hsz:hp.size=w'.heap.size:=Array.size_ofFn
 have hget:∀b,b < w'.heap.size→hp[b]?=if b < w.heap.size∧¬G b then w.heap[b]? else w'.heap[b]?:=fun b hb=>by
  rw [Array.getElem?_eq_getElem (by omega),Array.getElem_ofFn]
  by_cases c:b < w.heap.size∧¬G b
  · rw [if_pos c,dif_pos c,Array.getElem?_eq_getElem c.1]
  · rw [if_neg c,dif_neg c,Array.getElem?_eq_getElem hb]
 refine ⟨{ w' with heap:=hp },⟨h.os,h.tape,h.output,?_,fun k hk hn=>?_⟩,⟨rfl,rfl,rfl,?_,fun b hb _=>?_⟩⟩
 · show w.heap.size≤hp.size
   rw [hsz]
   exact h.size
 · show hp[k]?=w.heap[k]?
   rw [hget k (Nat.lt_of_lt_of_le hk h.size),if_pos ⟨hk,hn⟩]
 · show hp.size≤w'.heap.size
   omega
 · have hb':b < w'.heap.size:=by
    have:b < hp.size:=hb
    omega
   have hg:({ w' with heap:=hp }:World).heap[b]?=if b < w.heap.size∧¬G b then w.heap[b]? else w'.heap[b]?:=hget b hb'
   by_cases c:b < w.heap.size∧¬G b
   · rw [if_pos c] at hg
     have hbk:∀t cs,Bk w b t cs→Bk { w' with heap:=hp } b t cs:=fun t cs k=>hg.trans k
     rcases h.block b c.1 c.2 with e |⟨cs,v,h1,h2⟩|⟨cs,v,h1,h2⟩
     · exact .inl (by rw [hg];exact e)
     · exact .inr (.inl ⟨cs,v,hbk _ _ h1,h2⟩)
     · exact .inr (.inr ⟨cs,v,hbk _ _ h1,h2⟩)
   · rw [if_neg c] at hg
     exact .inl hg.symm
theorem LiveE.visF {w w':World} {B:Nat} {own:Nat→Nat} {gl:Nat} {t:List UInt8} {rate:Nat} {G:Nat→Prop} (h:LiveE w B own gl t rate) (k:VisF G w w') (hG:∀b,G b→own b=0):LiveE w' B own gl t rate:=by
 obtain ⟨w1,h1,h2⟩:=k.split
 exact (h.far0 h1 hG).vis h2
end Go.Proofs.YtipaccakmndkgaaGreatDoor
namespace Go.Proofs.YtipaccakmndkgaaGreatDoor
open Go.RowKit Go.Shelf
end Go.Proofs.YtipaccakmndkgaaGreatDoor
