/- Store's Do, told by its answer's cells; steps of literal bytes; store's Most, Rate, Last, Pairs. Conditions: at most 127 bytes; the table of math/bits stands in its variable. The walk of scrimshawlaw21.told. Conditions: the table of math/bits stands in its variable. The walk of StoreLimits: what may be a most and a rate. Conditions: the table of math/bits stands in its variable. -/
import Derived.Test.YtipaccakmndkgaaGreatDoorPsl46
import Derived.Test.YtipaccakmndkgaaGreatDoorPsl45
import Derived.Test.YtipaccakmndkgaaGreatDoorPsl32
import Derived.Test.YtipaccakmndkgaaGreatDoorPsl39
import Derived.Test.YtipaccakmndkgaaGreatDoorPsl11
import Derived.Test.YtipaccakmndkgaaGreatDoorPsl5
set_option linter.unusedVariables false
set_option linter.unusedSimpArgs false
set_option maxRecDepth 100000
set_option maxHeartbeats 4000000
namespace Go.Proofs.YtipaccakmndkgaaGreatDoor
open Go.RowKit
def StDoneV (w:World) (B:Nat) (own:Nat→Nat) (gs most rate:Nat) (T:List UInt8) (code num:Int) (data:List UInt8) (places:List Nat) (n1 n2:Nat) (e:Ending) (w':World):Prop:=
 ∃A1 c1 A2 c2 own' gl',e=.returned (.agg #[.int .i64 code,.int .i64 num,.slice A1 n1 c1,.slice A2 n2 c2])∧StAt w' B own' gs gl' most rate T∧LFS B gs w w' own own'∧MadeZ w' own' gs 5 A1 n1 c1 (data.map bv)∧MadeZ w' own' gs 3 A2 n2 c2 (places.map nv)
theorem StDone.v {w w':World} {B gs most rate:Nat} {own:Nat→Nat} {T:List UInt8} {code num:Int} {data:List UInt8} {places:List Nat} {n1 n2:Nat} {e:Ending} (hgs:gs < w.heap.size) (e1:data.length=n1) (e2:places.length=n2) (h:StDone w B own gs most rate T ⟨code,num,data,places⟩ e w'):StDoneV w B own gs most rate T code num data places n1 n2 e w':=by
 subst e1 e2
 obtain ⟨A1,c1,A2,c2,own',gl',rfl,h3,h4,h5,h6,z1,z2⟩:=h
 refine ⟨A1,c1,A2,c2,own',gl',rfl,h3,h4,⟨⟨own_mono h5.own (Nat.zero_le _),h5.rd,h5.cap,h5.max⟩,fun a ha=>?_⟩,⟨⟨own_mono h6.own (Nat.zero_le _),h6.rd,h6.cap,h6.max⟩,fun a ha=>?_⟩⟩
 · have h0:=z1 a ha
   subst ha
   have h7:=h5.own.lt (k:=a.block) rfl
   exact ⟨h7.2,h0,by omega⟩
 · have h0:=z2 a ha
   subst ha
   have h7:=h6.own.lt (k:=a.block) rfl
   exact ⟨h7.2,h0,by omega⟩
theorem StDoV1_any (B:Nat) (own:Nat→Nat) (gs gl most rate:Nat) (t D T2:List UInt8) (p n:Int) (A:Option Addr) (m c:Nat) (code num:Int) (data:List UInt8) (places:List Nat) (n1 n2:Nat) (w:World) (h2:doM t (most:Int) 1 p n D=(T2,⟨code,num,data,places⟩)) (e1:data.length=n1) (e2:places.length=n2)
 (h:StAt w B own gs gl most rate t) (hD:ArgZ w B own gs A m D) (hm:m≤1000000) (hT:TabW w) (hB0:1 < B) (h127:T2.length≤127):
 Calls Tryz.prog 31 #[.pointer (some ⟨gs,0,none⟩),.agg #[.int .i64 1,.int .i64 p,.int .i64 n,.slice A m c]] w (StDoneV w B own gs most rate T2 code num data places n1 n2):=
 (StDo1_any B own gs gl most rate t D T2 _ p n A m c w h2 h hD hm hT hB0 h127).mono fun e w'=>StDone.v h.blk.lt e1 e2
theorem StDoV7_any (B:Nat) (own:Nat→Nat) (gs gl most rate:Nat) (t D T2:List UInt8) (p n:Int) (A:Option Addr) (m c:Nat) (code num:Int) (data:List UInt8) (places:List Nat) (n1 n2:Nat) (w:World) (h2:doM t (most:Int) 7 p n D=(T2,⟨code,num,data,places⟩)) (e1:data.length=n1) (e2:places.length=n2)
 (h:StAt w B own gs gl most rate t) (hD:ArgZ w B own gs A m D) (hm:m≤1000000) (hT:TabW w) (hB0:1 < B) (h127:T2.length≤127):
 Calls Tryz.prog 31 #[.pointer (some ⟨gs,0,none⟩),.agg #[.int .i64 7,.int .i64 p,.int .i64 n,.slice A m c]] w (StDoneV w B own gs most rate T2 code num data places n1 n2):=
 (StDo7_any B own gs gl most rate t D T2 _ p n A m c w h2 h hD hm hT hB0 h127).mono fun e w'=>StDone.v h.blk.lt e1 e2
theorem StDoV8_any (B:Nat) (own:Nat→Nat) (gs gl most rate:Nat) (t D T2:List UInt8) (p n:Int) (A:Option Addr) (m c:Nat) (code num:Int) (data:List UInt8) (places:List Nat) (n1 n2:Nat) (w:World) (h2:doM t (most:Int) 8 p n D=(T2,⟨code,num,data,places⟩)) (e1:data.length=n1) (e2:places.length=n2)
 (h:StAt w B own gs gl most rate t) (hD:ArgZ w B own gs A m D) (hm:m≤1000000) (hT:TabW w) (hB0:1 < B) (h127:T2.length≤127):
 Calls Tryz.prog 31 #[.pointer (some ⟨gs,0,none⟩),.agg #[.int .i64 8,.int .i64 p,.int .i64 n,.slice A m c]] w (StDoneV w B own gs most rate T2 code num data places n1 n2):=
 (StDo8_any B own gs gl most rate t D T2 _ p n A m c w h2 h hD hm hT hB0 h127).mono fun e w'=>StDone.v h.blk.lt e1 e2
theorem argz_lit {W:World} {B gs gl most rate:Nat} {own:Nat→Nat} {t:List UInt8} (h:StAt W B own gs gl most rate t) (cs:Array Value) (fr:Nat×Nat) (bs:List UInt8) (n:Nat) (hcs:cs.toList=bs.map bv) (hn:bs.length=n):ArgZ (W.alloc (.cells cs 5 fr)) B own gs (some ⟨W.heap.size,0,none⟩) n bs:=by
 have hsz:cs.size=n:=by rw [←Array.length_toList,hcs];simpa using hn
 have h1:=rd_mark W 5 cs fr n hsz
 rw [hcs] at h1
 refine ⟨h1.mono (by simp),fun _ a ha=>?_⟩
 injection ha with ha
 subst ha
 refine .inr ⟨⟨h.fresh (Nat.le_refl _),by have:=h.blk.lt;show W.heap.size≠gs;omega⟩,cs,fr,?_⟩
 exact heap_alloc_new W _
theorem argz_nil {w:World} {B gs:Nat} {own:Nat→Nat}:ArgZ w B own gs none 0 []:=⟨Rd.nil _ _ _ _,fun h=>absurd h (by omega)⟩
def Kp (w:World) (own:Nat→Nat) (gs g:Nat) (t:TypeId) (cs:Array Value):Prop:=Bk w g t cs∧Ap own gs g
theorem Kp.step {w w':World} {B gs g:Nat} {own own':Nat→Nat} {t:TypeId} {cs:Array Value} (h:Kp w own gs g t cs) (k:LFS B gs w w' own own') (h1:t≠226) (h2:t≠174):Kp w' own' gs g t cs:=⟨k.bk h.1 h.2.col h.2.ne h1 h2,h.2.step k h.1.lt⟩
theorem Kp.new {W:World} {B gs gl most rate:Nat} {own:Nat→Nat} {tx:List UInt8} (h:StAt W B own gs gl most rate tx) (t:TypeId) (cs:Array Value):Kp (W.alloc (.cells cs t)) own gs W.heap.size t cs:=⟨Bk.new W t cs,h.fresh (Nat.le_refl _),by have:=h.blk.lt;omega⟩
theorem StMost_any (B:Nat) (own:Nat→Nat) (gs gl most rate:Nat) (t:List UInt8) (w:World) (h:StAt w B own gs gl most rate t):
 Calls Tryz.prog 32 #[.pointer (some ⟨gs,0,none⟩)] w fun e w'=>e=.returned (.int .i64 (most:Int))∧w=w':=by
 have c1:=h.blk.cell 1
 clear h
 go_enter Tryz.func32,Tryz.ntmps32
 go_wp2_with fail
 go_ret
 exact ⟨rfl,rfl⟩
theorem StMostNil_any (w:World):Calls Tryz.prog 32 #[.pointer none] w fun e w'=>e=.returned (.int .i64 0)∧w=w':=by
 go_enter Tryz.func32,Tryz.ntmps32
 go_wp2_with fail
 go_ret
 exact ⟨rfl,rfl⟩
theorem StRate_any (B:Nat) (own:Nat→Nat) (gs gl most rate:Nat) (t:List UInt8) (w:World) (h:StAt w B own gs gl most rate t):
 Calls Tryz.prog 33 #[.pointer (some ⟨gs,0,none⟩)] w fun e w'=>e=.returned (.int .i64 (rate:Int))∧w=w':=by
 have c0:=h.blk.cell 0
 have hr:Calls Tryz.prog 25 #[.pointer (some ⟨gl,0,none⟩)] w fun e w'=>e=.returned (.int .i64 (rate:Int))∧w=w':=by
  obtain ⟨rs,gk,gp,pr,hs,hl,hrt,hz0,hn127⟩:=h.tp
  exact LiveRate_any B gl gk gp _ rate _ pr w hl
 clear h
 go_enter Tryz.func33,Tryz.ntmps33
 go_wp2_with fail
 refine hr.mono ?_
 rintro e w1 ⟨rfl,rfl⟩
 clear hr
 go_wp2_with fail
 go_ret
 exact ⟨rfl,rfl⟩
def StLastPost (w:World) (B:Nat) (L:List Nat) (n:Nat) (e:Ending) (w':World):Prop:=∃A c,e=.returned (.slice A n c)∧Made w' w.heap.size 3 1 A n c (L.map sv)∧VB B w w'
theorem StLast_any (B:Nat) (own:Nat→Nat) (gs gl most rate n:Nat) (t:List UInt8) (rs:List Nat) (w:World) (h:StAt w B own gs gl most rate t) (hs:IsSuf (symL t) rs) (hn:t.length+1=n):
 Calls Tryz.prog 98 #[.pointer (some ⟨gs,0,none⟩)] w (StLastPost w B (lastL (symL t) rs) n):=by
 have c0:=h.blk.cell 0
 have hr:Calls Tryz.prog 27 #[.pointer (some ⟨gl,0,none⟩)] w (StLastPost w B (lastL (symL t) rs) n):=by
  obtain ⟨rs',gk,gp,pr,hs',hl,hrt,hz0,hn127⟩:=h.tp
  obtain rfl:=hs'.unique hs
  have hll:(lastL (symL t) rs').length=n:=by rw [lastL_len,hs.len,symL_len,hn]
  have:=LiveLast_any B gl gk gp _ rate _ pr w hl (lastL_lt (symL_lt t)) (by rw [hll];omega)
  unfold WAllPost at this
  rw [hll] at this
  exact this
 unfold StLastPost at hr⊢
 clear h hs hn
 go_enter Tryz.func98,Tryz.ntmps98
 go_wp2_with fail
 refine hr.mono ?_
 rintro e w1 ⟨A,c,rfl,hm,hv⟩
 have Hm:=lhd hm
 have Hv:=lhd hv
 clear hr hm hv
 go_wp2_with fail
 go_ret
 exact ⟨A,c,rfl,Hm.out,Hv.out⟩
theorem LoadShort_any (A:Option Addr) (n c:Nat) (w:World) (hn:n < 8):
 Calls Tryz.prog 24 #[.slice A n c] w fun e w'=>e=.returned (.tuple #[.pointer none,.agg #[.int .i64 0,.int .i64 0,.int .i64 0],.int .i64 4])∧Below w.heap.size w w':=by
 have g1:decide ((n:Int) < 8)=true:=decide_eq_true (by omega)
 go_enter Tryz.func24,Tryz.ntmps24
 go_wp2_with fail
 have hbk:=Bk.new w 43 #[.int .i64 0,.int .i64 0,.int .i64 0]
 exact bodyPost_ret (results_tct rfl _ _ w.heap.size 43 #[.int .i64 0,.int .i64 0,.int .i64 0] (0,0) _ rfl hbk Tryz.underlying43 rfl (by kernel_rfl)) rfl ⟨rfl,(Below.refl _ _).alloc (Nat.le_refl _) _⟩
theorem StLoadShort_any (gs:Nat) (A:Option Addr) (n c:Nat) (w:World) (hn:n < 8):
 Calls Tryz.prog 40 #[.pointer (some ⟨gs,0,none⟩),.slice A n c] w fun e w'=>e=.returned (.int .i64 4)∧Below w.heap.size w w':=by
 have hld:=LoadShort_any A n c w hn
 go_enter Tryz.func40,Tryz.ntmps40
 go_wp2_with fail
 refine hld.mono ?_
 rintro e w1 ⟨rfl,hb1⟩
 have hal:Below w1.heap.size w1 (w1.alloc (.cells #[.int .i64 0,.int .i64 0,.int .i64 0] 43)):=(Below.refl _ _).alloc (Nat.le_refl _) _
 have Hb:=lhd (hb1.trans (hal.mono hb1.size))
 clear hld hb1 hal
 go_wp2_with fail
 go_ret
 exact ⟨rfl,Hb.out⟩
theorem t21_ins:doM [] ((9:Nat):Int) 1 0 0 [97,98,99,97,98]=([97,98,99,97,98],⟨0,0, [], []⟩):=by rfl
theorem t21_loc:doM [97,98,99,97,98] ((9:Nat):Int) 7 0 0 [97,98]=([97,98,99,97,98],⟨0,2, [], [0,3]⟩):=by rfl
theorem t21_full:doM [97,98,99,97,98] ((9:Nat):Int) 1 1 0 [122,122,122,122,122]=([97,98,99,97,98],⟨3,0, [], []⟩):=by rfl
theorem t21_re:doM [97,98,99,97,98] ((9:Nat):Int) 8 0 0 []=([97,98,99,97,98],⟨0,0, [], []⟩):=by rfl
theorem res_f0 (code num:Int) (v2 v3:Value) (w:World):(Instr.field 54 (.agg #[.int .i64 code,.int .i64 num,v2,v3]) 0).run Tryz.prog w=.ok (.int .i64 code) w:=by kernel_rfl
theorem st_next {w w':World} {B gs gl' most rate:Nat} {own own':Nat→Nat} {T:List UInt8} {A1 A2:Option Addr} {n1 c1 n2 c2:Nat} {x1 x2:List Value} (h3:StAt w' B own' gs gl' most rate T) (h4:LFS B gs w w' own own') (m1:MadeZ w' own' gs 5 A1 n1 c1 x1) (m2:MadeZ w' own' gs 3 A2 n2 c2 x2) (cs:Array Value):
 StAt (w'.alloc (.cells cs 54)) B own' gs gl' most rate T∧LFS B gs w (w'.alloc (.cells cs 54)) own own'∧MadeZ (w'.alloc (.cells cs 54)) own' gs 5 A1 n1 c1 x1∧MadeZ (w'.alloc (.cells cs 54)) own' gs 3 A2 n2 c2 x2∧Kp (w'.alloc (.cells cs 54)) own' gs w'.heap.size 54 cs∧w'.heap.size+1=(w'.alloc (.cells cs 54)).heap.size:=by
 have hb:Below w'.heap.size w' (w'.alloc (.cells cs 54)):=(Below.refl _ _).alloc (Nat.le_refl _) _
 have hl:=LFS.of_below B gs own' hb
 exact ⟨h3.vb (Vis.of_below hb),h4.trans hl,m1.step hl (by decide) (by decide),m2.step hl (by decide) (by decide),Kp.new h3 _ _,by rw [World.size_alloc]⟩
theorem Told21_any (w:World) (hT:TabW w):
 Calls Tryz.prog 30 #[] w fun e w'=>e=.returned (.bool true)∧Below w.heap.size w w':=by
 have kc:=str_const
 have kf:=res_f0
 have kc1:=str_const1
 have hT0:=hT.pos
 obtain ⟨B,hB⟩:∃B,w.heap.size=B:=⟨_,rfl⟩
 have hB0:1 < B:=by omega
 have HT:=lhd hT
 have HB:=lhd hB
 clear hT hT0 hB
 go_enter Tryz.func30,Tryz.ntmps30
 go_wp2_with fail
 refine (StNew_any 9 3 w (by omega) (by omega) (by omega)).mono ?_
 rintro e w1 ⟨gs,gl,own,rfl,hst,hb⟩
 rw [HB.out] at hst hb
 have Hst1:=lhd hst
 have Hb1:=lhd hb
 have HT1:=lhd (HT.out.below hb hB0)
 clear hst hb
 go_wp2_with fail
 refine (StNewRate_any 9 0 w1 (by omega) (.inl (by omega))).mono ?_
 rintro e w2 ⟨rfl,rfl⟩
 go_wp2_with fail
 refine (StNewMost_any (-1) 3 w1 (.inl (by omega))).mono ?_
 rintro e w2 ⟨rfl,rfl⟩
 go_wp2_with fail
 refine (StDoV1_any B own gs gl 9 3 [] [97,98,99,97,98] _ 0 0 _ 5 5 0 0 [] [] 0 0 _ t21_ins rfl rfl (Hst1.out.vb (Vis.of_below ((Below.refl _ _).alloc (Nat.le_refl _) _))) (argz_lit Hst1.out _ _ _ 5 rfl rfl) (by omega) (HT1.out.below ((Below.refl _ _).alloc Hst1.out.size _) hB0) hB0 (by decide)).mono ?_
 rintro e w2 ⟨A1,c1,A11,c11,own2,gl2,rfl,hst2,hlf2,hm1,hm2⟩
 replace hlf2:=(LFS.of_below B gs own ((Below.refl _ _).alloc (Nat.le_refl _) _)).trans hlf2
 obtain ⟨hst3,hlf3,hm3,hm4,hkp,hsz⟩:=st_next hst2 hlf2 hm1 hm2 #[.int .i64 (0),.int .i64 (0),.slice A1 0 c1,.slice A11 0 c11]
 have HT2:=lhd (HT1.out.below (hlf3.below Hst1.out.size) hB0)
 have Hb2:=lhd (Hb1.out.trans (hlf3.below Hst1.out.size))
 have Hst2:=lhd hst3
 have Kp1:=lhd hkp
 have Hsz:=lhd hsz
 clear hst2 hlf2 hm1 hm2 hst3 hlf3 hm3 hm4 hkp hsz Hst1 HT1 Hb1
 go_wp2_with fail
 generalize w2.alloc (.cells #[.int .i64 (0),.int .i64 (0),.slice A1 0 c1,.slice A11 0 c11] 54)=w2x at*
 try rw [Hsz.out]
 generalize w2.heap.size=ga at*
 clear Hsz
 refine (StDoV7_any B own2 gs gl2 9 3 [97,98,99,97,98] [97,98] _ 0 0 _ 2 2 0 2 [] [0,3] 0 2 _ t21_loc rfl rfl (Hst2.out.vb (Vis.of_below ((Below.refl _ _).alloc (Nat.le_refl _) _))) (argz_lit Hst2.out _ _ _ 2 rfl rfl) (by omega) (HT2.out.below ((Below.refl _ _).alloc Hst2.out.size _) hB0) hB0 (by decide)).mono ?_
 rintro e w3 ⟨A1,c1,A12,c12,own3,gl3,rfl,hst2,hlf2,hm1,hm2⟩
 replace hlf2:=(LFS.of_below B gs own2 ((Below.refl _ _).alloc (Nat.le_refl _) _)).trans hlf2
 obtain ⟨hst3,hlf3,hm3,hm4,hkp,hsz⟩:=st_next hst2 hlf2 hm1 hm2 #[.int .i64 (0),.int .i64 (2),.slice A1 0 c1,.slice A12 2 c12]
 have Kp1n:=lhd (Kp1.out.step hlf3 (by decide) (by decide))
 clear Kp1
 have Kp1:=Kp1n
 clear Kp1n
 have HT3:=lhd (HT2.out.below (hlf3.below Hst2.out.size) hB0)
 have Hb3:=lhd (Hb2.out.trans (hlf3.below Hst2.out.size))
 have Hst3:=lhd hst3
 have Kp2:=lhd hkp
 have Hsz:=lhd hsz
 have Mz2:=lhd hm4
 clear hst2 hlf2 hm1 hm2 hst3 hlf3 hm3 hm4 hkp hsz Hst2 HT2 Hb2
 go_wp2_with fail
 generalize w3.alloc (.cells #[.int .i64 (0),.int .i64 (2),.slice A1 0 c1,.slice A12 2 c12] 54)=w3x at*
 try rw [Hsz.out]
 generalize w3.heap.size=gb at*
 clear Hsz
 refine (StDoV1_any B own3 gs gl3 9 3 [97,98,99,97,98] [122,122,122,122,122] _ 1 0 _ 5 5 3 0 [] [] 0 0 _ t21_full rfl rfl (Hst3.out.vb (Vis.of_below ((Below.refl _ _).alloc (Nat.le_refl _) _))) (argz_lit Hst3.out _ _ _ 5 rfl rfl) (by omega) (HT3.out.below ((Below.refl _ _).alloc Hst3.out.size _) hB0) hB0 (by decide)).mono ?_
 rintro e w4 ⟨A1,c1,A13,c13,own4,gl4,rfl,hst2,hlf2,hm1,hm2⟩
 replace hlf2:=(LFS.of_below B gs own3 ((Below.refl _ _).alloc (Nat.le_refl _) _)).trans hlf2
 obtain ⟨hst3,hlf3,hm3,hm4,hkp,hsz⟩:=st_next hst2 hlf2 hm1 hm2 #[.int .i64 (3),.int .i64 (0),.slice A1 0 c1,.slice A13 0 c13]
 have Kp1n:=lhd (Kp1.out.step hlf3 (by decide) (by decide))
 clear Kp1
 have Kp1:=Kp1n
 clear Kp1n
 have Mz2n:=lhd (Mz2.out.step hlf3 (by decide) (by decide))
 clear Mz2
 have Mz2:=Mz2n
 clear Mz2n
 have Kp2n:=lhd (Kp2.out.step hlf3 (by decide) (by decide))
 clear Kp2
 have Kp2:=Kp2n
 clear Kp2n
 have HT4:=lhd (HT3.out.below (hlf3.below Hst3.out.size) hB0)
 have Hb4:=lhd (Hb3.out.trans (hlf3.below Hst3.out.size))
 have Hst4:=lhd hst3
 have Kp3:=lhd hkp
 have Hsz:=lhd hsz
 clear hst2 hlf2 hm1 hm2 hst3 hlf3 hm3 hm4 hkp hsz Hst3 HT3 Hb3
 go_wp2_with fail
 generalize w4.alloc (.cells #[.int .i64 (3),.int .i64 (0),.slice A1 0 c1,.slice A13 0 c13] 54)=w4x at*
 try rw [Hsz.out]
 generalize w4.heap.size=gc at*
 clear Hsz
 refine (StDoV8_any B own4 gs gl4 9 3 [97,98,99,97,98] [] _ 0 0 none 0 0 0 0 [] [] 0 0 _ t21_re rfl rfl Hst4.out argz_nil (by omega) HT4.out hB0 (by decide)).mono ?_
 rintro e w5 ⟨A1,c1,A14,c14,own5,gl5,rfl,hst2,hlf2,hm1,hm2⟩
 obtain ⟨hst3,hlf3,hm3,hm4,hkp,hsz⟩:=st_next hst2 hlf2 hm1 hm2 #[.int .i64 (0),.int .i64 (0),.slice A1 0 c1,.slice A14 0 c14]
 have Kp1n:=lhd (Kp1.out.step hlf3 (by decide) (by decide))
 clear Kp1
 have Kp1:=Kp1n
 clear Kp1n
 have Mz2n:=lhd (Mz2.out.step hlf3 (by decide) (by decide))
 clear Mz2
 have Mz2:=Mz2n
 clear Mz2n
 have Kp2n:=lhd (Kp2.out.step hlf3 (by decide) (by decide))
 clear Kp2
 have Kp2:=Kp2n
 clear Kp2n
 have Kp3n:=lhd (Kp3.out.step hlf3 (by decide) (by decide))
 clear Kp3
 have Kp3:=Kp3n
 clear Kp3n
 have HT5:=lhd (HT4.out.below (hlf3.below Hst4.out.size) hB0)
 have Hb5:=lhd (Hb4.out.trans (hlf3.below Hst4.out.size))
 have Hst5:=lhd hst3
 have Kp4:=lhd hkp
 have Hsz:=lhd hsz
 clear hst2 hlf2 hm1 hm2 hst3 hlf3 hm3 hm4 hkp hsz Hst4 HT4 Hb4
 go_wp2_with fail
 generalize w5.alloc (.cells #[.int .i64 (0),.int .i64 (0),.slice A1 0 c1,.slice A14 0 c14] 54)=w5x at*
 try rw [Hsz.out]
 generalize w5.heap.size=gd at*
 clear Hsz
 obtain ⟨rs,hs⟩:∃rs,IsSuf (symL [97,98,99,97,98]) rs:=by
  obtain ⟨rs,_,_,_,hs,_⟩:=Hst5.out.tp
  exact ⟨rs,hs⟩
 have hsv:=StSave_any B own5 gs gl5 9 3 [97,98,99,97,98] rs w5x Hst5.out hs
 unfold SavePost at hsv
 obtain ⟨nb,hnb⟩:∃nb,(snapB (lastL (symL [97,98,99,97,98]) rs) rs 9 3 ([97,98,99,97,98]:List UInt8).length).length=nb:=⟨_,rfl⟩
 rw [hnb] at hsv
 refine hsv.mono ?_
 clear hsv
 rintro e w6 ⟨A6,c6,rfl,hm6,hv6⟩
 have hlf6:=LFS.of_vb gs own5 hv6
 have Kp1n:=lhd (Kp1.out.step hlf6 (by decide) (by decide))
 clear Kp1
 have Kp1:=Kp1n
 clear Kp1n
 have Mz2n:=lhd (Mz2.out.step hlf6 (by decide) (by decide))
 clear Mz2
 have Mz2:=Mz2n
 clear Mz2n
 have Kp2n:=lhd (Kp2.out.step hlf6 (by decide) (by decide))
 clear Kp2
 have Kp2:=Kp2n
 clear Kp2n
 have Kp3n:=lhd (Kp3.out.step hlf6 (by decide) (by decide))
 clear Kp3
 have Kp3:=Kp3n
 clear Kp3n
 have Kp4n:=lhd (Kp4.out.step hlf6 (by decide) (by decide))
 clear Kp4
 have Kp4:=Kp4n
 clear Kp4n
 have hst6:=Hst5.out.vb hv6.1
 have hld:=StLoad_any B own5 gs gl5 9 3 9 3 A6 nb c6 [97,98,99,97,98] [97,98,99,97,98] rs w6 hst6 hs (by decide) (by decide) (by decide) (by decide) (by decide) hnb hm6.rd hm6.cap hm6.max
 have Hb6:=lhd (Hb5.out.trans (hlf6.below Hst5.out.size))
 have HT6:=lhd (HT5.out.below (hlf6.below Hst5.out.size) hB0)
 have Hst6:=lhd hst6
 have Hs:=lhd hs
 have Hld:=lhd hld
 clear hst6 hlf6 hv6 hm6 hnb hs hld Hb5 HT5 Hst5
 go_wp2_with fail
 refine Hld.out.mono ?_
 rintro e w7 ⟨rfl,own7,gl7,hst7,hlf7⟩
 have Kp1n:=lhd (Kp1.out.step hlf7 (by decide) (by decide))
 clear Kp1
 have Kp1:=Kp1n
 clear Kp1n
 have Mz2n:=lhd (Mz2.out.step hlf7 (by decide) (by decide))
 clear Mz2
 have Mz2:=Mz2n
 clear Mz2n
 have Kp2n:=lhd (Kp2.out.step hlf7 (by decide) (by decide))
 clear Kp2
 have Kp2:=Kp2n
 clear Kp2n
 have Kp3n:=lhd (Kp3.out.step hlf7 (by decide) (by decide))
 clear Kp3
 have Kp3:=Kp3n
 clear Kp3n
 have Kp4n:=lhd (Kp4.out.step hlf7 (by decide) (by decide))
 clear Kp4
 have Kp4:=Kp4n
 clear Kp4n
 have Hb7:=lhd (Hb6.out.trans (hlf7.below Hst6.out.size))
 have HT7:=lhd (HT6.out.below (hlf7.below Hst6.out.size) hB0)
 have Hst7:=lhd hst7
 clear hst7 hlf7 Hld Hb6 HT6 Hst6
 go_wp2_with fail
 refine (StLoadShort_any gs _ 1 1 _ (by omega)).mono ?_
 rintro e w8 ⟨rfl,hb8⟩
 have hb78:=(Below.alloc (Below.refl w7.heap.size w7) (Nat.le_refl _) (.cells #[.int .u8 120] 5 (1,2))).trans (hb8.mono (by simp))
 have hlf8:=LFS.of_below B gs own7 hb78
 have Kp1n:=lhd (Kp1.out.step hlf8 (by decide) (by decide))
 clear Kp1
 have Kp1:=Kp1n
 clear Kp1n
 have Mz2n:=lhd (Mz2.out.step hlf8 (by decide) (by decide))
 clear Mz2
 have Mz2:=Mz2n
 clear Mz2n
 have Kp2n:=lhd (Kp2.out.step hlf8 (by decide) (by decide))
 clear Kp2
 have Kp2:=Kp2n
 clear Kp2n
 have Kp3n:=lhd (Kp3.out.step hlf8 (by decide) (by decide))
 clear Kp3
 have Kp3:=Kp3n
 clear Kp3n
 have Kp4n:=lhd (Kp4.out.step hlf8 (by decide) (by decide))
 clear Kp4
 have Kp4:=Kp4n
 clear Kp4n
 have hst8:=Hst7.out.vb (Vis.of_below hb78)
 have Hb8:=lhd (Hb7.out.trans (hlf8.below Hst7.out.size))
 have Hst8:=lhd hst8
 obtain ⟨ka,_⟩:=Kp1.out
 obtain ⟨kb,_⟩:=Kp2.out
 obtain ⟨kc3,_⟩:=Kp3.out
 obtain ⟨kd,_⟩:=Kp4.out
 obtain ⟨bp,op,ep,_,hcp⟩:=Mz2.out.1.rd.2 (by omega)
 subst ep
 have q0:=ka.cell 0
 have q1:=kb.cell 1
 have q2:=kb.cell 3
 have q3:=kc3.cell 0
 have q4:=kd.cell 0
 have q5:w8.cell? ⟨bp,op+1,none⟩=some (.int .i64 3):=hcp 1 _ rfl
 have hlast:=StLast_any B own7 gs gl7 9 3 6 [97,98,99,97,98] rs w8 Hst8.out Hs.out rfl
 unfold StLastPost at hlast
 have Hlast:=lhd hlast
 clear ka kb kc3 kd hcp hst8 hlf8 hb8 hb78 hlast Kp1 Kp2 Kp3 Kp4 Mz2 Hst7 Hb7 HT7
 go_wp2_with fail
 refine (StMost_any B own7 gs gl7 9 3 _ w8 Hst8.out).mono ?_
 rintro e w9 ⟨rfl,rfl⟩
 go_wp2_with fail
 refine (StRate_any B own7 gs gl7 9 3 _ w8 Hst8.out).mono ?_
 rintro e w9 ⟨rfl,rfl⟩
 go_wp2_with fail
 refine Hlast.out.mono ?_
 rintro e w9 ⟨A9,c9,rfl,hm9,hv9⟩
 have Hm9:=lhd hm9
 have Hb9:=lhd (Hb8.out.trans ((LFS.of_vb gs own7 hv9).below Hst8.out.size))
 have hBs9:B≤w9.heap.size:=Nat.le_trans Hst8.out.size hv9.1.size
 clear hm9 hv9 Hlast Hb8 q0 q1 q2 q3 q4 q5
 go_wp2_with fail
 refine (RefLast_any [97,98,99,97,98] 5 w9 rfl (by omega)).mono ?_
 rintro e wa ⟨Aa,ca,rs',rfl,hs',hma,hba⟩
 obtain rfl:=hs'.unique Hs.out
 have Hra:=lhd (Hm9.out.rd.below hba)
 have Hma:=lhd hma
 have Hba:=lhd (Hb9.out.trans (hba.mono hBs9))
 have hBsa:B≤wa.heap.size:=Nat.le_trans hBs9 hba.size
 have hsza:=hba.size
 clear hma hba hs' Hm9 Hb9
 go_wp2_with fail
 refine (refSame_any A9 Aa 6 c9 6 ca _ _ _ _ wa (Hra.out.mono hsza) Hma.out.rd (by omega) (by omega)).mono ?_
 rintro e wb ⟨rfl,hbb⟩
 have hd1:decide (lastL (symL [97,98,99,97,98]) rs'=lastL (symL [97,98,99,97,98]) rs')=true:=decide_eq_true rfl
 rw [hd1]
 have Hbb:=lhd (Hba.out.trans (hbb.mono hBsa))
 have hBsb:B≤wb.heap.size:=Nat.le_trans hBsa hbb.size
 clear hbb hd1 Hma Hra Hba
 go_wp2_with fail
 refine (StDoNil_any 0 0 0 none 0 0 wb).mono ?_
 rintro e wc ⟨rfl,hbc⟩
 have Hbc:=lhd (Hbb.out.trans (hbc.mono hBsb))
 clear hbc Hbb
 go_wp2_with fail
 refine (StMostNil_any wc).mono ?_
 rintro e wd ⟨rfl,rfl⟩
 go_wp2_with fail
 go_ret
 exact ⟨rfl,by rw [HB.out];exact Hbc.out⟩
theorem lim_most {k:Nat} (hk:k < 5):∃m:Int,(#[.int .i64 (-1),.int .i64 0,.int .i64 5,.int .i64 2147483648,.int .i64 2147483649]:Array Value)[k]?=some (.int .i64 m)∧(m=-1∨m=2147483649∨∃n:Nat,m=(n:Int)∧n≤2147483648∧(n < 5∨5≤n)):=by
 rcases (show k=0∨k=1∨k=2∨k=3∨k=4 by omega) with rfl | rfl | rfl | rfl | rfl
 · exact ⟨-1,rfl,.inl rfl⟩
 · exact ⟨0,rfl,.inr (.inr ⟨0,rfl,by omega,.inl (by omega)⟩)⟩
 · exact ⟨5,rfl,.inr (.inr ⟨5,rfl,by omega,.inr (by omega)⟩)⟩
 · exact ⟨2147483648,rfl,.inr (.inr ⟨2147483648,rfl,by omega,.inr (by omega)⟩)⟩
 · exact ⟨2147483649,rfl,.inr (.inl rfl)⟩
theorem lim_rate {k:Nat} (hk:k < 5):∃r:Int,(#[.int .i64 (-1),.int .i64 0,.int .i64 1,.int .i64 64,.int .i64 65]:Array Value)[k]?=some (.int .i64 r)∧(r=-1∨r=0∨r=65∨∃n:Nat,r=(n:Int)∧1≤n∧n≤64):=by
 rcases (show k=0∨k=1∨k=2∨k=3∨k=4 by omega) with rfl | rfl | rfl | rfl | rfl
 · exact ⟨-1,rfl,.inl rfl⟩
 · exact ⟨0,rfl,.inr (.inl rfl)⟩
 · exact ⟨1,rfl,.inr (.inr (.inr ⟨1,rfl,by omega,by omega⟩))⟩
 · exact ⟨64,rfl,.inr (.inr (.inr ⟨64,rfl,by omega,by omega⟩))⟩
 · exact ⟨65,rfl,.inr (.inr (.inl rfl))⟩
theorem lim_ins (n:Nat) (h:5≤n):doM [] (n:Int) 1 0 0 [97,98,99,100,101]=([97,98,99,100,101],⟨0,0, [], []⟩):=by
 have h1:hasB 0 0 0=true:=rfl
 have h2:¬(n:Int) -((([]:List UInt8).length:Nat):Int) < ((([97,98,99,100,101]:List UInt8).length:Nat):Int):=by simp;omega
 unfold doM
 rw [if_pos rfl,show hasB ([]:List UInt8).length 0 0=true from h1,if_neg (by decide),if_neg h2]
 rfl
theorem lim_full (n:Nat) (h:n < 5):doM [] (n:Int) 1 0 0 [97,98,99,100,101]=([],⟨3,0, [], []⟩):=by
 have h1:hasB 0 0 0=true:=rfl
 have h2:(n:Int) -((([]:List UInt8).length:Nat):Int) < ((([97,98,99,100,101]:List UInt8).length:Nat):Int):=by simp;omega
 unfold doM
 rw [if_pos rfl,show hasB ([]:List UInt8).length 0 0=true from h1,if_neg (by decide),if_pos h2]
theorem StoreLimits_walk (za zb:Int) (w:World) (hT:TabW w):
 Calls Tryz.prog 7 #[.int .i64 za,.int .i64 zb] w fun e w'=>e=.returned (.bool true)∧Below w.heap.size w w':=by
 have kc:=str_const
 have hw:=hT.pos
 obtain ⟨k1,hk1,hk1l⟩:=umod_ex za 5 (by omega)
 obtain ⟨k2,hk2,hk2l⟩:=umod_ex zb 5 (by omega)
 obtain ⟨m,hm,hmc⟩:=lim_most (show k1 < 5 by omega)
 obtain ⟨r,hr,hrc⟩:=lim_rate (show k2 < 5 by omega)
 obtain ⟨B,hB⟩:∃B,w.heap.size=B:=⟨_,rfl⟩
 have hB0:1 < B:=by omega
 have HT:=lhd hT
 have HB:=lhd hB
 clear hT hw hB
 go_enter Tryz.func7,Tryz.ntmps7
 go_wp2_with fail
 refine wp_region_any (by kernel_rfl) ?_
 refine wpAny_loose2 [11,12,13,14,15,16,17,18,19,20,21,22,5,6] (fun w1 w2=>Below w1.heap.size w1 w2) (Vs [fun x w2=>∃g,x=.slice (some ⟨g,0,none⟩) 5 5∧Bk w2 g 3 #[.int .i64 (-1),.int .i64 0,.int .i64 5,.int .i64 2147483648,.int .i64 2147483649],is (.int .i64 za),is (.int .u64 (IntKind.u64.wrap za)),is (.int .u64 (k1:Int)),fun x w2=>∃g,x=.pointer (some ⟨g,k1,none⟩)∧Bk w2 g 3 #[.int .i64 (-1),.int .i64 0,.int .i64 5,.int .i64 2147483648,.int .i64 2147483649],is (.int .i64 m),fun x w2=>∃g,x=.slice (some ⟨g,0,none⟩) 5 5∧Bk w2 g 3 #[.int .i64 (-1),.int .i64 0,.int .i64 1,.int .i64 64,.int .i64 65],is (.int .i64 zb),is (.int .u64 (IntKind.u64.wrap zb)),is (.int .u64 (k2:Int)),fun x w2=>∃g,x=.pointer (some ⟨g,k2,none⟩)∧Bk w2 g 3 #[.int .i64 (-1),.int .i64 0,.int .i64 1,.int .i64 64,.int .i64 65],is (.int .i64 r),is (.int .i64 m),is (.int .i64 r)]) _ _ rfl (by kernel_rfl) (Below.refl _ _) (fun _ _ h k=>h.trans (k.mono h.size)) (stbs_all (by repeat' (first | exact stbs_is _ _ | exact stbs_any _ | exact fun _ _ _ ⟨g,h1,h2⟩ k=>⟨g,h1,h2.below k h2.lt⟩|(refine List.forall_mem_cons.2 ⟨?_,?_⟩)|(intro p hp;cases hp)))) ?_ ?_
 · refine steps_of ?_
   refine steps_cons (step_on rfl rfl fun _ _ _ _ _ _ _ _ _ _ hK=>?_) ?_
   · go_simp
     exact hK _ _ ((Below.refl _ _).alloc (Nat.le_refl _) _) ⟨_,rfl,Bk.new _ _ _⟩
   refine steps_cons (step_on rfl rfl fun ev _ _ _ _ hold _ _ _ _ hK=>?_) ?_
   · have e0:ev (.tmp 0)=.int .i64 za:=hold 0 (by kernel_rfl)
     go_simp
     exact hK _ _ ((Below.refl _ _)) rfl
   refine steps_cons (step_on rfl rfl fun _ _ _ _ _ _ hval _ _ _ hK=>?_) ?_
   · have e12:_=_:=hval 1 12 (by kernel_rfl) rfl
     go_simp
     exact hK _ _ ((Below.refl _ _)) rfl
   refine steps_cons (step_on rfl rfl fun _ _ _ _ _ _ hval _ _ _ hK=>?_) ?_
   · have e13:_=_:=hval 2 13 (by kernel_rfl) rfl
     have q5:=hk1
     go_simp
     exact hK _ _ ((Below.refl _ _)) rfl
   refine steps_cons (step_on rfl rfl fun ev w5 _ _ _ _ hval _ _ _ hK=>?_) ?_
   · have p11:(fun x w2=>∃g,x=.slice (some ⟨g,0,none⟩) 5 5∧Bk w2 g 3 #[.int .i64 (-1),.int .i64 0,.int .i64 5,.int .i64 2147483648,.int .i64 2147483649]) (ev (.tmp 11)) w5:=hval 0 11 (by kernel_rfl) rfl
     have e14:_=_:=hval 3 14 (by kernel_rfl) rfl
     obtain ⟨g5,e11,hb5⟩:=p11
     have q5:¬(5:Int)≤(k1:Int):=by omega
     go_simp
     exact hK _ _ (Below.refl _ _) ⟨g5,by first | rfl | simp,hb5⟩
   refine steps_cons (step_on rfl rfl fun ev w5 _ _ _ _ hval _ _ _ hK=>?_) ?_
   · have p15:(fun x w2=>∃g,x=.pointer (some ⟨g,k1,none⟩)∧Bk w2 g 3 #[.int .i64 (-1),.int .i64 0,.int .i64 5,.int .i64 2147483648,.int .i64 2147483649]) (ev (.tmp 15)) w5:=hval 4 15 (by kernel_rfl) rfl
     obtain ⟨g5,e15,hb5⟩:=p15
     have c5:=(hb5.cell k1).trans hm
     go_simp
     exact hK _ _ ((Below.refl _ _)) rfl
   refine steps_cons (step_on rfl rfl fun _ _ _ _ _ _ _ _ _ _ hK=>?_) ?_
   · go_simp
     exact hK _ _ ((Below.refl _ _).alloc (Nat.le_refl _) _) ⟨_,rfl,Bk.new _ _ _⟩
   refine steps_cons (step_on rfl rfl fun ev _ _ _ _ hold _ _ _ _ hK=>?_) ?_
   · have e1:ev (.tmp 1)=.int .i64 zb:=hold 1 (by kernel_rfl)
     go_simp
     exact hK _ _ ((Below.refl _ _)) rfl
   refine steps_cons (step_on rfl rfl fun _ _ _ _ _ _ hval _ _ _ hK=>?_) ?_
   · have e18:_=_:=hval 7 18 (by kernel_rfl) rfl
     go_simp
     exact hK _ _ ((Below.refl _ _)) rfl
   refine steps_cons (step_on rfl rfl fun _ _ _ _ _ _ hval _ _ _ hK=>?_) ?_
   · have e19:_=_:=hval 8 19 (by kernel_rfl) rfl
     have q5:=hk2
     go_simp
     exact hK _ _ ((Below.refl _ _)) rfl
   refine steps_cons (step_on rfl rfl fun ev w5 _ _ _ _ hval _ _ _ hK=>?_) ?_
   · have p17:(fun x w2=>∃g,x=.slice (some ⟨g,0,none⟩) 5 5∧Bk w2 g 3 #[.int .i64 (-1),.int .i64 0,.int .i64 1,.int .i64 64,.int .i64 65]) (ev (.tmp 17)) w5:=hval 6 17 (by kernel_rfl) rfl
     have e20:_=_:=hval 9 20 (by kernel_rfl) rfl
     obtain ⟨g5,e17,hb5⟩:=p17
     have q5:¬(5:Int)≤(k2:Int):=by omega
     go_simp
     exact hK _ _ (Below.refl _ _) ⟨g5,by first | rfl | simp,hb5⟩
   refine steps_cons (step_on rfl rfl fun ev w5 _ _ _ _ hval _ _ _ hK=>?_) ?_
   · have p21:(fun x w2=>∃g,x=.pointer (some ⟨g,k2,none⟩)∧Bk w2 g 3 #[.int .i64 (-1),.int .i64 0,.int .i64 1,.int .i64 64,.int .i64 65]) (ev (.tmp 21)) w5:=hval 10 21 (by kernel_rfl) rfl
     obtain ⟨g5,e21,hb5⟩:=p21
     have c5:=(hb5.cell k2).trans hr
     go_simp
     exact hK _ _ ((Below.refl _ _)) rfl
   refine steps_cons (step_on rfl rfl fun _ _ _ _ _ _ hval _ _ _ hK=>?_) ?_
   · have e16:_=_:=hval 5 16 (by kernel_rfl) rfl
     go_simp
     exact hK _ _ ((Below.refl _ _)) rfl
   refine steps_cons (step_on rfl rfl fun _ _ _ _ _ _ hval _ _ _ hK=>?_) ?_
   · have e22:_=_:=hval 11 22 (by kernel_rfl) rfl
     go_simp
     exact hK _ _ ((Below.refl _ _)) rfl
   exact steps_nil
 · intro ev w6 hS hval
   have e5:ev (.tmp 5)=.int .i64 m:=hval 12 5 rfl
   have e6:ev (.tmp 6)=.int .i64 r:=hval 13 6 rfl
   simp only [putsOf,List.foldl_cons,List.foldl_nil,Act.put,List.setIfInBounds_toArray,List.set_cons_zero,List.set_cons_succ]
   rw [e5]
   rw [e6]
   clear hval
   replace hS:Below w.heap.size w w6:=⟨hS.os,hS.tape,hS.output,hS.size,hS.block⟩
   rw [HB.out] at hS
   have Hb6:=lhd hS
   have HT6:=lhd (HT.out.below hS hB0)
   have hB6:B≤w6.heap.size:=by have:=HB.out;have:=hS.size;omega
   clear hS e5 e6 hk1 hk2 hm hr hk1l hk2l
   rcases hmc with rfl | rfl |⟨n,rfl,hn,hn5⟩
   · go_wp2_with fail
     refine (StNewMost_any (-1) r w6 (.inl (by omega))).mono ?_
     rintro e w1 ⟨rfl,rfl⟩
     go_wp2_with fail
     refine (Told21_any w6 HT6.out).mono ?_
     rintro e w2 ⟨rfl,hb2⟩
     have Hb2:=lhd (Hb6.out.trans (hb2.mono hB6))
     clear hb2
     go_wp2_with fail
     go_ret
     exact ⟨rfl,by rw [HB.out];exact Hb2.out⟩
   · go_wp2_with fail
     refine (StNewMost_any 2147483649 r w6 (.inr (by omega))).mono ?_
     rintro e w1 ⟨rfl,rfl⟩
     go_wp2_with fail
     refine (Told21_any w6 HT6.out).mono ?_
     rintro e w2 ⟨rfl,hb2⟩
     have Hb2:=lhd (Hb6.out.trans (hb2.mono hB6))
     clear hb2
     go_wp2_with fail
     go_ret
     exact ⟨rfl,by rw [HB.out];exact Hb2.out⟩
   rcases hrc with rfl | rfl | rfl |⟨q,rfl,hq1,hq2⟩
   · have g1:decide ((n:Int)≥0)=true:=decide_eq_true (by omega)
     have g2:decide ((n:Int)≤2147483648)=true:=decide_eq_true (by omega)
     go_wp2_with fail
     refine (StNewRate_any n (-1) w6 hn (.inl (by omega))).mono ?_
     rintro e w1 ⟨rfl,rfl⟩
     go_wp2_with fail
     refine (Told21_any w6 HT6.out).mono ?_
     rintro e w2 ⟨rfl,hb2⟩
     have Hb2:=lhd (Hb6.out.trans (hb2.mono hB6))
     clear hb2
     go_wp2_with fail
     go_ret
     exact ⟨rfl,by rw [HB.out];exact Hb2.out⟩
   · have g1:decide ((n:Int)≥0)=true:=decide_eq_true (by omega)
     have g2:decide ((n:Int)≤2147483648)=true:=decide_eq_true (by omega)
     go_wp2_with fail
     refine (StNewRate_any n 0 w6 hn (.inl (by omega))).mono ?_
     rintro e w1 ⟨rfl,rfl⟩
     go_wp2_with fail
     refine (Told21_any w6 HT6.out).mono ?_
     rintro e w2 ⟨rfl,hb2⟩
     have Hb2:=lhd (Hb6.out.trans (hb2.mono hB6))
     clear hb2
     go_wp2_with fail
     go_ret
     exact ⟨rfl,by rw [HB.out];exact Hb2.out⟩
   · have g1:decide ((n:Int)≥0)=true:=decide_eq_true (by omega)
     have g2:decide ((n:Int)≤2147483648)=true:=decide_eq_true (by omega)
     go_wp2_with fail
     refine (StNewRate_any n 65 w6 hn (.inr (by omega))).mono ?_
     rintro e w1 ⟨rfl,rfl⟩
     go_wp2_with fail
     refine (Told21_any w6 HT6.out).mono ?_
     rintro e w2 ⟨rfl,hb2⟩
     have Hb2:=lhd (Hb6.out.trans (hb2.mono hB6))
     clear hb2
     go_wp2_with fail
     go_ret
     exact ⟨rfl,by rw [HB.out];exact Hb2.out⟩
   have g1:decide ((n:Int)≥0)=true:=decide_eq_true (by omega)
   have g2:decide ((n:Int)≤2147483648)=true:=decide_eq_true (by omega)
   have g3:decide ((q:Int)≥1)=true:=decide_eq_true (by omega)
   have g4:decide ((q:Int)≤64)=true:=decide_eq_true (by omega)
   go_wp2_with fail
   refine (StNew_any n q w6 hn hq1 hq2).mono ?_
   rintro e w1 ⟨gs,gl,own,rfl,hst,hb⟩
   have Hst1:=lhd hst
   have Hb1:=lhd (Hb6.out.trans (hb.mono hB6))
   have HT1:=lhd (HT6.out.below hb (by omega))
   clear hst hb
   go_wp2_with fail
   clear g1 g2 g3 g4
   rcases hn5 with hn5 | hn5
   · have g5:decide ((n:Int)≥5)=false:=decide_eq_false (by omega)
     refine (StDoV1_any w6.heap.size own gs gl n q [] [97,98,99,100,101] [] 0 0 _ 5 5 3 0 [] [] 0 0 _ (lim_full n hn5) rfl rfl (Hst1.out.vb (Vis.of_below ((Below.refl _ _).alloc (Nat.le_refl _) _))) (argz_lit Hst1.out _ _ _ 5 rfl rfl) (by omega) (HT1.out.below ((Below.refl _ _).alloc Hst1.out.size _) (by omega)) (by omega) (by decide)).mono ?_
     rintro e w2 ⟨x1,y1,x2,y2,own2,gl2,rfl,hst2,hlf2,hm1,hm2⟩
     replace hlf2:=(LFS.of_below w6.heap.size gs own ((Below.refl _ _).alloc (Nat.le_refl _) _)).trans hlf2
     obtain ⟨hst3,hlf3,_,_,hkp,hsz⟩:=st_next hst2 hlf2 hm1 hm2 #[.int .i64 (3),.int .i64 0,.slice x1 0 y1,.slice x2 0 y2]
     have HT3:=lhd (HT1.out.below (hlf3.below Hst1.out.size) (by omega))
     have Hb3:=lhd (Hb1.out.trans ((hlf3.below Hst1.out.size).mono hB6))
     have Hst3:=lhd hst3
     have Hkp:=lhd hkp.1
     clear hst2 hlf2 hm1 hm2 hst3 hlf3 hkp hsz
     go_wp2_with fail
     generalize w2.alloc (.cells #[.int .i64 (3),.int .i64 0,.slice x1 0 y1,.slice x2 0 y2] 54)=w3 at*
     generalize w2.heap.size=g2 at*
     refine (Told21_any w3 HT3.out).mono ?_
     rintro e w4 ⟨rfl,hb4⟩
     have hst4:=Hst3.out.vb (Vis.of_below hb4)
     have hk4:=Hkp.out.below hb4 Hkp.out.lt
     have q0:=hk4.cell 0
     have Hst4:=lhd hst4
     have Hb4:=lhd (Hb3.out.trans (hb4.mono (by have:=Hst3.out.size;omega)))
     clear hb4 hst4 hk4
     go_wp2_with fail
     refine (StMost_any w6.heap.size own2 gs gl2 n q _ w4 Hst4.out).mono ?_
     rintro e w5 ⟨rfl,rfl⟩
     go_wp2_with fail
     refine (StRate_any w6.heap.size own2 gs gl2 n q _ w4 Hst4.out).mono ?_
     rintro e w5 ⟨rfl,rfl⟩
     go_wp2_with fail
     go_ret
     exact ⟨rfl,by rw [HB.out];exact Hb4.out⟩
   · have g5:decide ((n:Int)≥5)=true:=decide_eq_true (by omega)
     refine (StDoV1_any w6.heap.size own gs gl n q [] [97,98,99,100,101] [97,98,99,100,101] 0 0 _ 5 5 0 0 [] [] 0 0 _ (lim_ins n hn5) rfl rfl (Hst1.out.vb (Vis.of_below ((Below.refl _ _).alloc (Nat.le_refl _) _))) (argz_lit Hst1.out _ _ _ 5 rfl rfl) (by omega) (HT1.out.below ((Below.refl _ _).alloc Hst1.out.size _) (by omega)) (by omega) (by decide)).mono ?_
     rintro e w2 ⟨x1,y1,x2,y2,own2,gl2,rfl,hst2,hlf2,hm1,hm2⟩
     replace hlf2:=(LFS.of_below w6.heap.size gs own ((Below.refl _ _).alloc (Nat.le_refl _) _)).trans hlf2
     obtain ⟨hst3,hlf3,_,_,hkp,hsz⟩:=st_next hst2 hlf2 hm1 hm2 #[.int .i64 (0),.int .i64 0,.slice x1 0 y1,.slice x2 0 y2]
     have HT3:=lhd (HT1.out.below (hlf3.below Hst1.out.size) (by omega))
     have Hb3:=lhd (Hb1.out.trans ((hlf3.below Hst1.out.size).mono hB6))
     have Hst3:=lhd hst3
     have Hkp:=lhd hkp.1
     clear hst2 hlf2 hm1 hm2 hst3 hlf3 hkp hsz
     go_wp2_with fail
     generalize w2.alloc (.cells #[.int .i64 (0),.int .i64 0,.slice x1 0 y1,.slice x2 0 y2] 54)=w3 at*
     generalize w2.heap.size=g2 at*
     refine (Told21_any w3 HT3.out).mono ?_
     rintro e w4 ⟨rfl,hb4⟩
     have hst4:=Hst3.out.vb (Vis.of_below hb4)
     have hk4:=Hkp.out.below hb4 Hkp.out.lt
     have q0:=hk4.cell 0
     have Hst4:=lhd hst4
     have Hb4:=lhd (Hb3.out.trans (hb4.mono (by have:=Hst3.out.size;omega)))
     clear hb4 hst4 hk4
     go_wp2_with fail
     refine (StMost_any w6.heap.size own2 gs gl2 n q _ w4 Hst4.out).mono ?_
     rintro e w5 ⟨rfl,rfl⟩
     go_wp2_with fail
     refine (StRate_any w6.heap.size own2 gs gl2 n q _ w4 Hst4.out).mono ?_
     rintro e w5 ⟨rfl,rfl⟩
     go_wp2_with fail
     go_ret
     exact ⟨rfl,by rw [HB.out];exact Hb4.out⟩
end Go.Proofs.YtipaccakmndkgaaGreatDoor
