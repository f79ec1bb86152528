/- The walks of walk's of and New, of live's New: what they make owns its blocks (WalkE, LiveE). Conditions: at most 127 bytes, a rate from 1 to 64. The walk of live's Delete. Conditions: at most 127 bytes ahead; a rate from 1 to 64. Plain laws: where a letter stands behind an insert; what an edit leaves of a slice that a call made. No conditions. -/
import Derived.Test.YtipaccakmndkgaaGreatDoorPfe28
import Derived.Test.YtipaccakmndkgaaGreatDoorPfe45
import Derived.Test.YtipaccakmndkgaaGreatDoorPfe35
import Derived.Test.YtipaccakmndkgaaGreatDoorPfe41
import Derived.Test.YtipaccakmndkgaaGreatDoorPfe33
import Derived.Test.YtipaccakmndkgaaGreatDoorPfe39
namespace Go.Proofs.YtipaccakmndkgaaGreatDoor
open Go.RowKit Go.Shelf
set_option linter.unusedVariables false
set_option linter.unusedSimpArgs false
theorem WaveS.low {w:World} {B B':Nat} {own:Nat→Nat} {gv:Nat} {S:Nat→Value} {Ls:Nat→List Nat} {n v:Int} (h:WaveS w B own gv S Ls n v) (hB:B'≤B):WaveS w B' own gv S Ls n v:=by
 refine ⟨h.blk,⟨Nat.le_trans hB h.base.1,h.base.2⟩,fun lv hl=>?_,fun b hb=>⟨Nat.le_trans hB (h.bnd b hb).1,(h.bnd b hb).2⟩⟩
 obtain ⟨G,g1,g2,g3⟩:=h.rows lv hl
 exact ⟨G,own_mono g1 hB,g2,g3⟩
theorem WalkE.low {w:World} {B B':Nat} {own:Nat→Nat} {gk:Nat} {L T:List Nat} (h:WalkE w B own gk L T) (hB:B'≤B):WalkE w B' own gk L T:=by
 obtain ⟨gv,gt,h1,h2,⟨S,v,h3⟩,h4,h5⟩:=h
 exact ⟨gv,gt,h1,h2,⟨S,v,h3.low hB⟩,h4,h5⟩
def ownK (own:Nat→Nat) (gt gk b:Nat):Nat:=if b=gt then 2 else if b=gk then 2 else own b
set_option maxRecDepth 100000 in
theorem WalkOfE_any (A:Option Addr) (m c B:Nat) (L:List Nat) (w:World) (hr:Rd w B 1 A m (L.map sv)) (hB:B≤w.heap.size) (hm:m≤128) (hL:∀s∈L,s < 257):
 Calls Tryz.prog 112 #[.slice A m c] w fun e w'=>∃gk own,e=.returned (.pointer (some ⟨gk,0,none⟩))∧w.heap.size≤gk∧WalkE w' w.heap.size own gk L L∧Below w.heap.size w w':=by
 have Hr:=Lib.hid hr
 have HL:=Lib.hid hL
 clear hr hL
 go_enter Tryz.func112,Tryz.ntmps112
 go_wp2_with fail
 refine (WaveNewE_any A m c B L _ Hr.out hB hm HL.out).mono ?_
 rintro e w1 ⟨gv,own,rfl,hwv,hb1⟩
 have Hwv:=Lib.hid hwv
 have Hb1:=Lib.hid hb1
 clear hwv hb1
 go_wp2_with fail
 refine (TallyNew_any A m c B L w1 (Hr.out.below (Hb1.out.mono hB)) (by have:=Hb1.out.size;omega) (by omega) HL.out).mono ?_
 rintro e w2 ⟨gt,rfl,hgt,htl,hb2⟩
 have hwv2:=Hwv.out.vis (Vis.of_below hb2)
 have hb3:=Hb1.out.trans (hb2.mono Hb1.out.size)
 have Hwv2:=Lib.hid hwv2
 have Htl:=Lib.hid htl
 have Hb3:=Lib.hid hb3
 have Hsz2:=Lib.hid hb2.size
 clear hwv2 htl hb3 hb2
 go_wp2_with fail
 go_ret
 have hw3:=Hwv2.out.vis (w':=w2.alloc (.cells #[.pointer (some ⟨gv,0,none⟩),.pointer (some ⟨gt,0,none⟩)] 99)) ((Vis.refl _).alloc _)
 have hbn:=Hwv.out.bnd
 have htl2:=Htl.out.lt
 have hb1s:=Hb1.out.size
 have hs2:=Hsz2.out
 have hpaint:=hw3.paint (own':=ownK own gt w2.heap.size) (fun b hb h2=>by
  have:=(hbn b (by omega)).2
  unfold ownK
  rw [if_neg (by omega),if_neg (by omega)]) (fun b hne=>by
  unfold ownK at hne
  by_cases c1:b=gt
  · subst c1
    exact ⟨by omega,by simp;omega⟩
  · rw [if_neg c1] at hne
    by_cases c2:b=w2.heap.size
    · subst c2
      exact ⟨by omega,by simp⟩
    · rw [if_neg c2] at hne
      have:=hbn b hne
      exact ⟨this.1,by simp;omega⟩)
 refine ⟨_,_,rfl,Hb3.out.size,⟨gv,gt,Bk.new _ _ _,?_,hpaint,Htl.out.alloc _,?_⟩,Hb3.out.alloc Hb3.out.size _⟩
 · unfold ownK
   rw [if_neg (by omega),if_pos rfl]
 · unfold ownK
   rw [if_pos rfl]
set_option maxRecDepth 100000 in
theorem WalkNewE_any (A:Option Addr) (m c B:Nat) (t:List UInt8) (w:World) (hr:Rd w B 1 A m (t.map bv)) (hB:B≤w.heap.size) (hm:m≤127):
 Calls Tryz.prog 48 #[.slice A m c] w fun e w'=>∃gk rs,IsSuf (symL t) rs∧e=.returned (.pointer (some ⟨gk,0,none⟩))∧w.heap.size≤gk∧(∃own,WalkE w' w.heap.size own gk (lastL (symL t) rs) (lastL (symL t) rs))∧Below w.heap.size w w':=by
 have Hr:=Lib.hid hr
 clear hr
 go_enter Tryz.func48,Tryz.ntmps48
 go_wp2_with fail
 refine (SortedLast_any A m c B t _ Hr.out hB (by omega)).mono ?_
 rintro e w1 ⟨rs,A1,c1,hsuf,rfl,hm1,hb1⟩
 have Hsuf:=Lib.hid hsuf
 have Hm1:=Lib.hid hm1.rd
 have Hb1:=Lib.hid hb1
 clear hsuf hm1 hb1
 go_wp2_with fail
 refine (WalkOfE_any A1 (m+1) c1 _ _ w1 Hm1.out (Nat.le_refl _) (by omega) (lastL_lt (symL_lt t))).mono ?_
 rintro e w2 ⟨gk,own,rfl,hgk,hwk,hb2⟩
 have hb3:=Hb1.out.trans (hb2.mono Hb1.out.size)
 have hz:=Hb1.out.size
 have Hwk:=Lib.hid hwk
 clear hwk
 go_wp2_with fail
 go_ret
 exact ⟨gk,rs,Hsuf.out,rfl,by omega,⟨own,Hwk.out.low hz⟩,hb3⟩
theorem LiveE.low {w:World} {B B':Nat} {own:Nat→Nat} {gl:Nat} {t:List UInt8} {rate:Nat} (h:LiveE w B own gl t rate) (hB:B'≤B):LiveE w B' own gl t rate:=by
 obtain ⟨gk,gp,mv,T,rs,pr,⟨h1,h2,h3,h4⟩,h5⟩:=h
 exact ⟨gk,gp,mv,T,rs,pr,⟨h1,⟨h2.blk,h2.col,h2.walk.low hB,h2.perm⟩,h3,h4⟩,h5⟩
theorem LiveE.tp {w:World} {B:Nat} {own:Nat→Nat} {gl:Nat} {t:List UInt8} {rate:Nat} (h:LiveE w B own gl t rate) (hn:t.length≤127):TpAt w B gl t rate:=by
 obtain ⟨gk,gp,mv,T,rs,pr,⟨h1,h2,h3,h4⟩,h5,h6⟩:=h
 exact ⟨rs,gk,gp,pr,h1,h2.g h3,h4,h5,hn⟩
open Classical in
noncomputable def ownL (own:Nat→Nat) (gp ga:Nat) (vl vo vt:Value) (gl b:Nat):Nat:=if PF gp ga vl vo vt b then 1 else if b=gl then 3 else own b
theorem PermAt.low {w:World} {B gp ga:Nat} {vl vo vt vf:Value} {R P:Nat} {ks:List Nat} {C:List (Nat×Nat)} {tk:List Bool} {fr:List Nat} (h:PermAt w B gp ga vl vo vt vf R P ks C tk fr):PermAt w 0 gp ga vl vo vt vf R P ks C tk fr:=
 ⟨h.blk,own_mono h.lrow (Nat.zero_le _),own_mono h.orow (Nat.zero_le _),h.ar,own_mono h.trow (Nat.zero_le _),own_mono h.frow (Nat.zero_le _),h.apart,h.lt,⟨Nat.zero_le _,Nat.zero_le _⟩⟩
theorem range_rows (C:List (Nat×Nat)):(List.range C.length).map (fun k=>(rowK C k,posK C k))=C:=(range_pairs C).symm
theorem samp_smp {rs:List Nat} {rate n p:Nat} (h:∃i,rs[i]?=some p∧i < n) (hp:p % rate=0):Smp (sampC rs rate n) p:=by
 obtain ⟨i,h1,h2⟩:=h
 exact ⟨(i,p),(sampM _ _ _ _ _).2 ⟨h2,by rw [List.getD_eq_getElem?_getD,h1];rfl,hp⟩,rfl⟩
theorem samp_gap {t:List UInt8} {rs:List Nat} {rate:Nat} (hs:IsSuf (symL t) rs) (hr:1≤rate):GapOk (Smp (sampC rs rate (t.length+1))) rate t.length:=fun s ⟨x,hx,e⟩ hN=>by
 obtain ⟨a,p⟩:=x
 have h1:=(sampM _ _ _ _ _).1 hx
 have e':p=s:=e
 subst e'
 refine ⟨p+rate,samp_smp ?_ (by rw [Nat.add_mod_right];exact h1.2.2),by omega,Nat.le_refl _⟩
 obtain ⟨j,hj,ej⟩:=hs.row (p:=p+rate) (by rw [symL_len];omega)
 refine ⟨j,by rw [List.getElem?_eq_getElem hj,ej],?_⟩
 have:=hs.len
 rw [symL_len] at this
 omega
theorem live_made {w wr:World} {Bw w2s B1:Nat} {own:Nat→Nat} {gl gk gp ga rate N:Nat} {vl vo vt:Value} {t:List UInt8} {rs:List Nat} {tk:List Bool} (hN:t.length=N) (hsuf:IsSuf (symL t) rs) (hr:1≤rate) (hn:N≤127) (hwk:WalkE wr Bw own gk (lastL (symL t) rs) (lastL (symL t) rs)) (hob:∀b,own b≠0→b < w2s) (hgl:gl=w2s) (hB1:w2s < B1) (hblk:Bk wr gl 87 #[.pointer (some ⟨gk,0,none⟩),.pointer (some ⟨gp,0,none⟩),.int .i64 (rate:Int),.int .i64 0])
 (hp:PermAt wr B1 gp ga vl vo vt (.slice none 0 0) (N+1) (N+1) (List.range (sampC rs rate (N+1)).length) (sampC rs rate (N+1)) tk []) (htl:tk.length=(sampC rs rate (N+1)).length) (htk:∀b∈tk,b=true) (hBw:Bw≤w2s):∃own',LiveE wr Bw own' gl t rate:=by
 subst hN
 have hfoot:∀b,PF gp ga vl vo vt b→B1≤b∧b < wr.heap.size:=fun b hb=>by
  refine ⟨hp.foot hb,?_⟩
  rcases hb with rfl | rfl | hb | hb | hb
  · exact hp.blk.lt
  · exact hp.ar.lt
  · exact (hp.lrow.lt _ hb).2
  · exact (hp.orow.lt _ hb).2
  · exact (hp.trow.lt _ hb).2
 have ho1:∀b,PF gp ga vl vo vt b→ownL own gp ga vl vo vt gl b=1:=fun b hb=>by unfold ownL;rw [if_pos hb]
 have hogl:ownL own gp ga vl vo vt gl gl=3:=by
  unfold ownL
  rw [if_neg (fun h=>by have:=(hfoot _ h).1;omega),if_pos rfl]
 have hoth:∀b,b < w2s→ownL own gp ga vl vo vt gl b=own b:=fun b hb=>by
  unfold ownL
  rw [if_neg (fun h=>by have:=(hfoot _ h).1;omega),if_neg (by omega)]
 have hrl:rs.length=t.length+1:=by rw [hsuf.len,symL_len]
 refine ⟨ownL own gp ga vl vo vt gl,gk,gp,0,_,rs,sampC rs rate (t.length+1),⟨hsuf,⟨hblk,hogl,hwk.paint (fun b _ h2=>hoth b (hob b (by omega))) (fun b hne=>?_),⟨⟨ga,vl,vo,vt,.slice none 0 0,List.range (sampC rs rate (t.length+1)).length,sampC rs rate (t.length+1),tk, [],?_,(range_rows _).symm⟩,sampC_sorted _ _ _,fun x hx=>?_⟩⟩,List.Perm.refl _,samp_right (by omega)⟩,?_,samp_gap hsuf hr⟩
 · unfold ownL at hne
   by_cases c1:PF gp ga vl vo vt b
   · have:=hfoot b c1
     exact ⟨by omega,this.2⟩
   · rw [if_neg c1] at hne
     by_cases c2:b=gl
     · subst c2
       exact ⟨by omega,hblk.lt⟩
     · rw [if_neg c2] at hne
       exact hwk.bnd b hne
 · have htg:∀k,k < tk.length→tk[k]?=some true:=fun k hk=>by
    rw [List.getElem?_eq_getElem hk]
    congr 1
    exact htk _ (List.getElem_mem hk)
   refine ⟨hp.low,ho1 _ (.inl rfl),ho1 _ (.inr (.inl rfl)),fun b hb=>ho1 _ (.inr (.inr (.inl hb))),fun b hb=>ho1 _ (.inr (.inr (.inr (.inl hb)))),fun b hb=>ho1 _ (.inr (.inr (.inr (.inr hb)))),fun b hb=>(by cases hb),List.nodup_range,htl,fun k=>?_,List.nodup_nil,fun k=>?_,by have:=sampC_le rs rate (t.length+1);omega⟩
   · rw [List.mem_range,←htl]
     constructor
     · intro h
       exact (List.getElem?_eq_some_iff.1 h).1
     · exact htg k
   · constructor
     · intro h
       cases h
     · intro h
       have h1:=htg k (List.getElem?_eq_some_iff.1 h).1
       rw [h1] at h
       cases h
 · have h1:=sampC_mem hx
   have h2:=samp_right (rs:=rs) (rate:=rate) (n:=t.length+1) (by omega) x hx
   have h3:=hsuf.lt (List.mem_of_getElem? h2)
   rw [symL_len] at h3
   exact ⟨h1.1,h3⟩
 · obtain ⟨x,hx,e⟩:=samp_zero (rate:=rate) hsuf
   exact ⟨x,hx,e⟩
set_option maxRecDepth 100000 in
set_option maxHeartbeats 4000000 in
theorem LiveNewE_any (rate:Nat) (A0:Option Addr) (m0 c0 B:Nat) (ss:List Sl) (t:List UInt8) (N:Nat) (hT:catS ss=t) (hN:t.length=N) (w:World) (hr0:Rd w B 1 A0 m0 (ss.map slV)) (hss:∀s∈ss,Rd w B 1 s.A s.n (s.l.map bv)) (hB:B≤w.heap.size) (hm:m0≤1000000) (hn:N≤127) (hr1:1≤rate) (hr2:rate≤64):
 Calls Tryz.prog 15 #[.int .i64 (rate:Int),.slice A0 m0 c0] w fun e w'=>∃gl own,e=.returned (.tuple #[.pointer (some ⟨gl,0,none⟩),.int .i64 0])∧w.heap.size≤gl∧LiveE w' w.heap.size own gl t rate∧Below w.heap.size w w':=by
 have hT2:=hN
 have hcat:=Concat_any A0 m0 c0 B ss t N hT hN w hr0 hss hB (by omega) (by omega)
 have hrI1:¬((rate:Int) < 1):=by omega
 have hrI2:¬((rate:Int) > 64):=by omega
 clear hr0 hss
 go_enter Tryz.func15,Tryz.ntmps15
 go_wp2_with fail
 refine hcat.mono ?_
 clear hcat
 rintro e w1 ⟨A1,c1,rfl,hm1,hb1⟩
 have hbb1:=hb1
 have hR1:=hm1.rd
 have HR1:=Lib.hid hR1
 have Hb1:=Lib.hid hb1
 clear hm1 hb1 hbb1 hR1
 go_wp2_with fail
 refine (WalkNewE_any A1 N c1 w1.heap.size t w1 HR1.out (Nat.le_refl _) hn).mono ?_
 rintro e w2 ⟨gk,rs,hsuf,rfl,hgk,hwk,hb2⟩
 have hR2:=HR1.out.below hb2
 have hb12:=Hb1.out.trans (hb2.mono Hb1.out.size)
 have Hsuf:=Lib.hid hsuf
 obtain ⟨ownW,hwk⟩:=hwk
 have hob:=hwk.bnd
 have Hob:=Lib.hid hob
 clear hob
 have Hwk:=Lib.hid (hwk.low Hb1.out.size)
 have HR2:=Lib.hid (hR2.mono hb2.size)
 have Hb2:=Lib.hid hb12
 clear hsuf hwk hR2 hb12 hb2 HR1 Hb1 hgk
 go_wp2_with fail
 obtain ⟨n,hn1⟩:∃n,N+1=n:=⟨_,rfl⟩
 have hnI:(N:Int)+1=(n:Int):=by omega
 rw [hnI]
 have hlb:=Bk.new w2 87 #[.pointer (some ⟨gk,0,none⟩),.pointer none,.int .i64 (rate:Int),.int .i64 0]
 have hbA:Below w2.heap.size w2 (w2.alloc (.cells #[.pointer (some ⟨gk,0,none⟩),.pointer none,.int .i64 (rate:Int),.int .i64 0] 87)):=(Below.refl _ _).alloc (Nat.le_refl _) _
 obtain ⟨gl,hgl⟩:∃g,w2.heap.size=g:=⟨_,rfl⟩
 rw [hgl] at hlb
 rw [hgl]
 have Hgl:=Lib.hid hgl
 generalize w2.alloc (.cells #[.pointer (some ⟨gk,0,none⟩),.pointer none,.int .i64 (rate:Int),.int .i64 0] 87)=w3 at hlb hbA⊢
 have Hlb:=Lib.hid hlb
 have HbA:=Lib.hid hbA
 have HN1:=Lib.hid hn1
 clear hlb hbA hn1 hgl
 refine (PermNew_any n w3 (by omega)).mono ?_
 rintro e w4 ⟨gp,ga,rfl,hpm,hb4⟩
 have hlb4:=Hlb.out.below hb4 Hlb.out.lt
 have d1:w4.cell? ⟨gl,1,none⟩=some (.pointer none):=(hlb4.cell 1).trans rfl
 have f1:=hlb4.frozen 1
 have Hlb4:=Lib.hid hlb4
 have Hpm:=Lib.hid hpm
 have Hb4:=Lib.hid hb4
 clear hlb4 hpm hb4
 go_wp2_with fail
 have hk45:=(Keep.refl (fun b=>b=gl) w4).setCell (p:=⟨gl,1,none⟩) (.inl rfl) (.pointer (some ⟨gp,0,none⟩))
 have hlb5:=Hlb4.out.set 1 (.pointer (some ⟨gp,0,none⟩))
 have hpm5:=Hpm.out.keep hk45 (fun b t cs f hb=>by
  subst f
  have:=(bk_inj hb Hlb4.out).1
  subst this
  decide)
 have hb25:Below w2.heap.size w2 (w4.setCell ⟨gl,1,none⟩ (.pointer (some ⟨gp,0,none⟩))):=(HbA.out.trans (Hb4.out.mono HbA.out.size)).setCell (by rw [Hgl.out];exact Nat.le_refl _) _
 have hgl2:=Hgl.out
 have HB1:=Lib.hid (show w2.heap.size < w3.heap.size by have:=Hlb.out.lt;omega)
 have hB1:w2.heap.size≤w3.heap.size:=HbA.out.size
 clear d1 f1
 generalize w4.setCell ⟨gl,1,none⟩ (.pointer (some ⟨gp,0,none⟩))=w5 at hlb5 hpm5 hb25⊢
 have hrows:=SortedRows_any A1 N c1 w2.heap.size t w5 (HR2.out.below hb25) hb25.size (by omega)
 rw [HN1.out] at hrows
 have Hlb5:=Lib.hid hlb5
 have Hpm5:=Lib.hid hpm5
 have Hb25:=Lib.hid hb25
 clear hk45 hlb5 hpm5 hb25
 refine hrows.mono ?_
 clear hrows
 rintro e w6 ⟨rs',A3,c3,hsuf',rfl,hm6,hb6⟩
 obtain rfl:rs=rs':=Hsuf.out.unique hsuf'
 have hlen:rs.length=n:=by rw [Hsuf.out.len,symL_len,hN,HN1.out]
 have hinv:LvInv w2 w3.heap.size w5.heap.size gl gk gp ga n rate A3 c3 rs 0 (.slice none 0 0) (.slice none 0 0) (.slice none 0 0) [] w6:=
  ⟨Hpm5.out.below hb6,rfl,fun a _ hb=>(by cases hb),hm6.own,Hlb5.out.below hb6 Hlb5.out.lt,Hb25.out.trans (hb6.mono Hb25.out.size)⟩
 have Hlen:=Lib.hid hlen
 have Hinv:=Lib.hid hinv
 clear hinv hm6 hb6 hsuf' hlen Hlb5 Hpm5 Hb25
 go_wp2_with fail
 go_loopw [8,9,36] (fun _ _ i wr=>∃k:Nat,k≤n∧i=.int .i64 k∧∃vl vo vt tk,LvInv w2 w3.heap.size w5.heap.size gl gk gp ga n rate A3 c3 rs k vl vo vt tk wr∧∀b∈tk,b=true) (fun _ _ i _=>n -(intOf i).toNat)
 case atStart=>exact ⟨0,by omega,rfl,_,_,_,_,Hinv.out,fun b hb=>by cases hb⟩
 case round=>
  clear Hinv
  obtain ⟨k,hk,rfl,vl,vo,vt,tk,hinv,htk⟩:=hrel
  have Htk:=Lib.hid htk
  clear htk
  by_cases hlt:k < n
  · have hkl:k < rs.length:=by rw [Hlen.out];exact hlt
    obtain ⟨p,hp⟩:∃p,rs[k]?=some p:=⟨_,List.getElem?_eq_getElem hkl⟩
    have hpn:p < n:=by have:=Hsuf.out.lt (List.mem_of_getElem? hp);rw [symL_len,hN,HN1.out] at this;exact this
    have hgd:rs.getD k 0=p:=by rw [List.getD_eq_getElem?_getD,hp];rfl
    have hrd:=Rd.of_own hinv.row
    obtain ⟨b,off,u,hA3,hbl,hu,hc⟩:=hrd.get hlt
    rw [List.getElem?_map,hp] at hu
    injection hu with hu
    subst hu hA3
    unfold sv at hc
    have cg0:=hinv.blk.cell 1
    have hmt:((p:Int)).tmod (rate:Int)=((p % rate:Nat):Int):=by rw [Int.tmod_eq_emod_of_nonneg (by omega)];simp
    have hme:((p:Int))%(rate:Int)=((p % rate:Nat):Int):=by simp
    obtain ⟨q,hq⟩:∃q,p % rate=q:=⟨_,rfl⟩
    rw [hq] at hmt hme
    have hsc:=sampC_succ rs rate k
    rw [hgd,hq] at hsc
    have Hgd:=Lib.hid hgd
    have Hp:=Lib.hid hp
    have Hq:=Lib.hid hq
    have Hinv:=Lib.hid hinv
    have Hrl:=Lib.hid hbl
    clear hgd hp hq hinv hrd hkl hbl
    by_cases hq0:q=0
    · subst hq0
      rw [if_pos rfl] at hsc
      have Hsc:=Lib.hid hsc
      clear hsc
      go_wp2_with fail
      have hadd:=PermAdd_any w3.heap.size gp ga vl vo vt n n (List.range (sampC rs rate k).length) (sampC rs rate k) tk k p wr Hinv.out.perm (rowK_sorted (sampC_sorted rs rate k)) (fun j hj=>(sampC_mem (rowK_mem (by simpa using hj))).1) (fun j hj e=>by
       have h1:=sampC_mem (rowK_mem (C:=sampC rs rate k) (by simpa using hj))
       have h2:posK (sampC rs rate k) j=rs.getD (rowK (sampC rs rate k) j) 0:=h1.2
       have h3:rowK (sampC rs rate k) j < k:=h1.1
       have hkl:k < rs.length:=by rw [Hlen.out];exact hlt
       have h4:rs[rowK (sampC rs rate k) j]?=rs[k]?:=by
        rw [Hp.out,←e,h2,List.getD_eq_getElem?_getD,List.getElem?_eq_getElem (show rowK (sampC rs rate k) j < rs.length by omega)]
        rfl
       have:=(List.getElem?_inj (show rowK (sampC rs rate k) j < rs.length by omega) Hsuf.out.nodup).1 h4
       omega) hlt hpn Hinv.out.len (by
        have:(sampC rs rate k).length≤k:=by unfold sampC;rw [List.length_map];exact Nat.le_trans (List.length_filter_le _ _) (by simp)
        omega) (by
        have:(sampC rs rate k).length≤k:=by unfold sampC;rw [List.length_map];exact Nat.le_trans (List.length_filter_le _ _) (by simp)
        simp
        omega) (by have:=Hinv.out.perm.blk.lt;have:=Hinv.out.perm.lo.1;omega)
      refine hadd.mono ?_
      clear hadd
      rintro e w7 ⟨rfl,hk7,vl',vo',vt',hpm7,hf1,hf2,hf3⟩
      go_wp2_with fail
      go_roundw
      case rel=>
       have hinv:=Hinv.out
       refine ⟨k+1,by omega,by go_num,vl',vo',vt',tk++ [true],⟨?_,?_,?_,?_,?_,?_⟩,fun b hb=>by rcases List.mem_append.1 hb with h9 | h9;exact Htk.out b h9;exact List.mem_singleton.1 h9⟩
       · rw [Hsc.out]
         simpa [List.range_succ] using hpm7
       · rw [Hsc.out]
         simp [hinv.len]
       · exact hinv.apt.next2 hf1 (fun a ha=>by injection ha with ha;subst ha;exact Hrl.out)
       · refine own_same hinv.row fun b' cs hb' hbk=>hk7.bk hbk (fun f=>?_)
         rcases f with f | f | f | f | f
         · subst f;exact Bk.ne hbk hinv.perm.blk (by decide) rfl
         · subst f;exact Bk.ne hbk hinv.perm.ar (by decide) rfl
         · exact own_bk_ne hinv.perm.lrow hbk (by decide) f.symm
         · have hb2:b=b':=by simpa [Value.ownBlock] using hb'
           subst hb2
           exact hinv.apt _ rfl f
         · exact own_bk_ne hinv.perm.trow hbk (by decide) f.symm
       · refine hk7.bk hinv.blk (fun f=>?_)
         have:=hinv.perm.foot f
         have:=Hlb.out.lt
         omega
       · exact hinv.below.trans (hk7.to_below hinv.below.size (fun b' hb' f=>by have:=hinv.perm.foot f;omega))
      case measure=>simp [intOf];omega
    · rw [if_neg hq0] at hsc
      have Hsc:=Lib.hid hsc
      have hqb:((q:Int)==0)=false:=by simp;omega
      clear hsc
      go_wp2_with fail
      go_roundw
      case rel=>
       have hinv:=Hinv.out
       exact ⟨k+1,by omega,by go_num,vl,vo,vt,tk,⟨by rw [Hsc.out];exact hinv.perm,by rw [Hsc.out];exact hinv.len,hinv.apt,hinv.row,hinv.blk,hinv.below⟩,Htk.out⟩
      case measure=>simp [intOf];omega
  · obtain rfl:n=k:=by omega
    have Hinv:=Lib.hid hinv
    clear hinv
    go_wp2_with fail
    go_ret2
    have hinv:=Hinv.out
    have hp:=hinv.perm
    have hl:=hinv.len
    rw [←HN1.out] at hp hl
    obtain ⟨own',hE⟩:=live_made (w:=w) (w2s:=w2.heap.size) hT2 Hsuf.out hr1 hn (Hwk.out.vis (Vis.of_below hinv.below)) (fun b hb=>(Hob.out b hb).2) Hgl.out.symm HB1.out hinv.blk hp hl Htk.out Hb2.out.size
    exact ⟨gl,own',rfl,by have:=Hb2.out.size;have:=Hgl.out;omega,hE,Hb2.out.trans (hinv.below.mono Hb2.out.size)⟩
end Go.Proofs.YtipaccakmndkgaaGreatDoor
namespace Go.Proofs.YtipaccakmndkgaaGreatDoor
open Go.RowKit Go.Shelf
set_option linter.unusedVariables false
set_option linter.unusedSimpArgs false
theorem TabW.keepLF {w w':World} {B:Nat} {own own':Nat→Nat} (h:TabW w) (k:LF B w w' own own') (hB:1 < B):TabW w':=
 h.below (B:=1+1) (k.keep.to_below (by have:=h.pos;omega) fun b hb f=>by have f':B≤b:=f;omega) (by omega)
theorem del_perm {L:List Nat} {k b s old:Nat} (hb:L[b]?=some old) (hk:L[k]?=some s) (hne:k≠b):L.Perm (old::delN (L.set b s) k):=by
 have h1:=set_perm (s:=s) hb
 have h2:(L.set b s)[k]?=some s:=by rw [List.getElem?_set_ne (fun e=>hne e.symm),hk]
 have h3:=delN_perm h2
 have h4:(s::L).Perm (old::s::delN (L.set b s) k):=h1.symm.trans (h3.symm.cons old)
 exact (h4.trans (List.Perm.swap s old _)).cons_inv
theorem outR_ush {k p:Nat} (h:p≠k):outR p k=ush k p:=by
 unfold outR ush
 split <;> split <;> omega
set_option maxRecDepth 100000 in
set_option maxHeartbeats 4000000 in
theorem LDelete_any (w:World) (B:Nat) (own:Nat→Nat) (gl:Nat) (t:List UInt8) (rate at_:Nat) (h:LiveE w B own gl t rate) (hTab:TabW w) (hB0:1 < B) (hn:t.length≤127) (hat:at_ < t.length) (hr1:1≤rate) (hr2:rate≤64):
 Calls Tryz.prog 18 #[.pointer (some ⟨gl,0,none⟩),.int .i64 (at_:Int)] w (InsE w B own gl (delN t at_) rate):=by
 obtain ⟨gk,gp,mv,T,rs,pr,hx,hs0,hgap⟩:=h
 obtain ⟨N,hN⟩:∃N,t.length=N+1:=⟨t.length - 1,by omega⟩
 have hN':=hN
 rw [hN] at hx hgap hn hat
 have hat:at_≤N:=by omega
 obtain ⟨hLl,hTl,hrl⟩:=hx.len hN
 have hend:=symL_end t
 rw [hN] at hend
 obtain ⟨S,hS⟩:∃S,symL t=S:=⟨_,rfl⟩
 have hS2:symL (delN t at_)=delN S at_:=by rw [symL_del t (by omega),hS]
 have hSl:=hend.len
 have hS257:∀x∈S,x < 257:=by rw [←hS];exact symL_lt t
 rw [hS] at hend hLl hSl
 have hsuf:=hx.suf
 rw [hS] at hsuf
 have hmem:∀p,p≤N+1→p∈rs:=fun p hp=>hsuf.mem (by omega)
 have hnd:rs.Nodup:=hsuf.nodup
 have hperm:rs.Perm (List.range (N+1+1)):=by have:=hsuf.perm;rwa [hSl] at this
 have hnear:=near_del hsuf hend (at_:=at_) hat
 obtain ⟨hro1,hro2⟩:=ro_del hperm (at_:=at_) hat
 have hL2:=lastL_del hperm hend (at_:=at_) hat
 have hkb:ro rs at_≠ro rs (at_+1):=fun e=>by
  have:=ro_inj (hmem at_ (by omega)) (hmem (at_+1) (by omega)) e
  omega
 have hback:=back_row hsuf hend (show 0 < at_+1 by omega) (show at_+1≤N+1 by omega)
 rw [Nat.add_sub_cancel] at hback
 obtain ⟨hbk1,hbk2⟩:=hback
 obtain ⟨k,hk⟩:∃k,ro rs at_=k:=⟨_,rfl⟩
 obtain ⟨bh,hbh⟩:∃k,ro rs (at_+1)=k:=⟨_,rfl⟩
 have hrk:rs[k]?=some at_:=by rw [←hk];exact ro_get (hmem at_ (by omega))
 have hrb:rs[bh]?=some (at_+1):=by rw [←hbh];exact ro_get (hmem (at_+1) (by omega))
 have hkN:k < N+2:=by
  have:=(List.getElem?_eq_some_iff.1 hrk).1
  omega
 have hbN:bh < N+2:=by
  have:=(List.getElem?_eq_some_iff.1 hrb).1
  omega
 obtain ⟨R1,hR1⟩:∃R1,(delN rs (ro rs at_)).map (ush at_)=R1:=⟨_,rfl⟩
 rw [hR1] at hnear hro1 hro2 hL2
 rw [hk] at hro2 hL2 hkb hbk1
 rw [hbh] at hL2 hkb hbk1 hbk2
 obtain ⟨L,hL⟩:∃L,lastL S rs=L:=⟨_,rfl⟩
 rw [hL] at hL2 hLl hbk1 hbk2
 obtain ⟨sk,hsk⟩:∃sk,prevL S at_=sk:=⟨_,rfl⟩
 rw [hsk] at hL2
 obtain ⟨bb,hbb⟩:∃bb,S.getD at_ 0=bb:=⟨_,rfl⟩
 rw [hbb] at hbk1 hbk2
 have hLk:L[k]?=some sk:=by
  rw [←hL,←hsk]
  unfold lastL
  rw [List.getElem?_map,hrk]
  rfl
 have hL257:∀x∈L,x < 257:=by rw [←hL];exact lastL_lt hS257
 have hsk257:sk < 257:=hL257 sk (List.mem_of_getElem? hLk)
 have hbb257:bb < 257:=hL257 bb (List.mem_of_getElem? hbk2)
 have hlive:=hx.live
 rw [hS,hL] at hlive
 have htal:=hx.tal
 rw [hS,hL] at htal
 have hset257:∀x∈L.set bh sk,x < 257:=fun x hxx=>by
  rcases List.mem_or_eq_of_mem_set hxx with h1 | h1
  · exact hL257 x h1
  · omega
 have hsetk:(L.set bh sk)[k]?=some sk:=by rw [List.getElem?_set_ne (fun e=>hkb e.symm),hLk]
 have htal2:T.Perm (bb::lastL (delN S at_) R1):=by
  rw [hL2]
  exact htal.trans (del_perm hbk2 hLk hkb)
 have hk1:∀x∈pr,(x.1≠k↔x.2≠at_):=fun x hxx=>by
  have h1:=hx.right x hxx
  constructor
  · intro h2 e
    rw [e] at h1
    have:=ro_of hnd h1
    exact h2 (by rw [←this,hk])
  · intro h2 e
    rw [e,hrk] at h1
    injection h1 with h1
    exact h2 h1.symm
 have hrinj:=hx.rinj
 have hpr2:∀x∈pr,x.1≠k→R1[outR x.1 k]?=some (outR x.2 at_):=fun x hxx hne=>by
  have h1:=hx.right x hxx
  have h2:=(hk1 x hxx).1 hne
  have h3:x.2≤N+1:=by have:=hperm.mem_iff.1 (List.mem_of_getElem? h1);rw [List.mem_range] at this;omega
  have h4:ush at_ x.2≤N:=by unfold ush;split <;> omega
  have h5:=hro2 (ush at_ x.2) h4
  rw [sh_ush h2,ro_of hnd h1] at h5
  rw [outR_ush h2,←h5]
  exact ro_get (hnear.mem.2 h4)
 have hple:∀s,Smp pr s→s≤N+1:=fun s ⟨x,hxx,e⟩=>by
  have:=(hlive.perm.2.2 x hxx).2
  omega
 have hpg:=fun (S':Nat→Prop) (hS':∀p,S' p↔∃s,Smp pr s∧s≠at_∧p=ush at_ s)=>pregap_del hgap hs0 hple hr1 hat hS'
 have hbnd:=hlive.bnd
 obtain ⟨ah,hah⟩:∃ah:Int,(if at_=0 then -1 else ((ro rs (at_ - 1):Nat):Int))=ah:=⟨_,rfl⟩
 have hahead:∀w5,LiveM w5 B own gl gk gp rate 0 (N+1+1) (N+1+1) L T pr→Calls Tryz.prog 58 #[.pointer (some ⟨gl,0,none⟩),.int .i64 (at_:Int),.int .i64 (k:Int)] w5 fun e w'=>e=.returned (.int .i64 ah)∧VB B w5 w':=fun w5 h5=>by
  by_cases c:at_=0
  · rw [if_pos c] at hah
    subst c hah
    refine (LAhead0_any k w5 gl).mono ?_
    rintro e w' ⟨rfl,rfl⟩
    exact ⟨rfl,VisK.refl _ _⟩
  · rw [if_neg c] at hah
    obtain ⟨b1,b2⟩:=back_row hsuf hend (show 0 < at_ by omega) (by omega)
    rw [hL,hk] at b1 b2
    have:=LAhead_any at_ k (S.getD (at_ - 1) 0) h5 (by omega) b2 hL257 (by omega) (by omega)
    rw [narT_perm htal,b1,hah] at this
    exact this
 have haOf:outI ah (k:Int)=aOf R1 at_:=by
  rw [←hah]
  unfold aOf
  by_cases c:at_=0
  · rw [if_pos c,if_pos c,outI_neg]
  · rw [if_neg c,if_neg c,outI_nat]
    have h3:=hro2 (at_ - 1) (by omega)
    rw [show sh at_ (at_ - 1)=at_ - 1 by unfold sh;rw [if_pos (by omega)]] at h3
    rw [h3]
 have hcur:ro R1 at_=outR bh k:=by
  have h3:=hro2 at_ hat
  rw [show sh at_ at_=at_+1 by unfold sh;rw [if_neg (by omega)],hbh] at h3
  exact h3
 have hahb:-1000000≤ah∧ah≤1000000:=by
  rw [←hah]
  by_cases c:at_=0
  · rw [if_pos c];omega
  · rw [if_neg c]
    have l2:ro rs (at_ - 1) < rs.length:=List.idxOf_lt_length_iff.2 (hmem (at_ - 1) (by omega))
    omega
 have hne0:at_≠0→∃x∈pr,x.1≠k:=fun h0=>by
  obtain ⟨x,hxx,e⟩:=hs0
  exact ⟨x,hxx,(hk1 x hxx).2 (by omega)⟩
 have hlen0:=LiveLen_any B gl L (N+1) w (hlive.g htal).lvw hLl (by omega)
 have e1:IntKind.i64.wrap (((N+1:Nat):Int) - 1)=(N:Int):=by rw [IntKind.wrap_i64];omega
 have Hrt:=Lib.hid hx.right
 have Hsf:=Lib.hid hx.suf
 have Hblk0:=Lib.hid hlive.blk
 have Hlive:=Lib.hid hlive
 have Htal:=Lib.hid htal
 have HN:=Lib.hid hN'
 have HS:=Lib.hid hS
 have HS2:=Lib.hid hS2
 have HLl:=Lib.hid hLl
 have HTl:=Lib.hid hTl
 have HL257:=Lib.hid hL257
 have HLk:=Lib.hid hLk
 have HLb:=Lib.hid hbk2
 have Hbk1:=Lib.hid hbk1
 have Hrk:=Lib.hid hrk
 have Hset257:=Lib.hid hset257
 have Hsetk:=Lib.hid hsetk
 have HL2:=Lib.hid hL2
 have Htal2:=Lib.hid htal2
 have Hpr2:=Lib.hid hpr2
 have Hk1:=Lib.hid hk1
 have Hrinj:=Lib.hid hrinj
 have Hpg:=Lib.hid hpg
 have Hnear:=Lib.hid hnear
 have HaOf:=Lib.hid haOf
 have Hcur:=Lib.hid hcur
 have Hahead:=Lib.hid hahead
 have Hne0:=Lib.hid hne0
 have HS257:=Lib.hid hS257
 have HL:=Lib.hid hL
 have Hbnd:=Lib.hid hbnd
 have HTab:=Lib.hid hTab
 have hatI:(at_:Int)≤(N:Int):=by omega
 obtain ⟨M,hM⟩:∃M,N+1=M:=⟨_,rfl⟩
 rw [hM] at hlen0 e1
 have HM:=Lib.hid hM
 unfold InsE
 clear hx hlive htal hN hN' hS hS2 hLl hTl hL257 hLk hrk hset257 hsetk hL2 htal2 hpr2 hpg hnear haOf hahead hS257 hgap hs0 hsuf hmem hend hperm hnd hR1 hsk hrl hSl hple hk hah hL hbnd hTab hk1 hrinj hcur hne0 hbk1 hbk2 hbh hrb hbb hro1 hro2 hkb hM
 go_enter Tryz.func18,Tryz.ntmps18
 go_wp2_with fail
 refine hlen0.mono ?_
 clear hlen0
 rintro e w1 ⟨rfl,rfl⟩
 go_wp2_with fail
 refine (Asks_ok gl _ _ _ mv (at_:Int) (N:Int) w Hblk0.out (by omega) hatI).mono ?_
 rintro e w1 ⟨rfl,rfl⟩
 obtain ⟨hl1,hf1⟩:=Hlive.out.setMv 0
 have Hl1:=Lib.hid hl1
 have Hf1:=Lib.hid hf1
 clear hl1 hf1 Hblk0 Hlive
 generalize w.setCell ⟨gl,3,none⟩ (.int .i64 0)=w1 at Hl1 Hf1⊢
 have hrowc:Calls Tryz.prog 56 #[.pointer (some ⟨gl,0,none⟩),.int .i64 (at_:Int)] w1 fun e w'=>e=.returned (.int .i64 (k:Int))∧VB B w1 w':=by
  have hg:=Hl1.out.g Htal.out
  exact LiveRowG_any B gl gk gp rate t rs pr k at_ w1 (by rw [HN.out,HS.out];rw [HL.out];exact hg) Hrt.out Hsf.out (by rw [HN.out];omega) Hrk.out
 go_wp2_with fail
 refine hrowc.mono ?_
 clear hrowc
 rintro e w3 ⟨rfl,hv3⟩
 have Hl3:=Lib.hid (Hl1.out.vis hv3.1)
 have Hf3:=Lib.hid (Hf1.out.trans (LF.of_vb (own:=own) hv3))
 clear hv3 Hl1 Hf1
 have q0:=Hl3.out.blk.cell 0
 have hon:=WalkOn_any B gk L bh k bb w3 (Hl3.out.walk.at Htal.out) HLb.out Hbk1.out HL257.out (by rw [HLl.out];omega) (HTab.out.keepLF Hf3.out hB0) hB0
 go_wp2_with fail
 refine hon.mono ?_
 clear hon
 rintro e w4 ⟨rfl,hv4⟩
 have Hl4:=Lib.hid (Hl3.out.vis hv4.1)
 have Hf4:=Lib.hid (Hf3.out.trans (LF.of_vb (own:=own) hv4))
 clear hv4 q0 Hl3 Hf3
 have hahc:=Hahead.out w4 Hl4.out
 clear Hahead
 go_wp2_with fail
 refine hahc.mono ?_
 clear hahc
 rintro e w5 ⟨rfl,hv5⟩
 have Hl5:=Lib.hid (Hl4.out.vis hv5.1)
 have Hf5:=Lib.hid (Hf4.out.trans (LF.of_vb (own:=own) hv5))
 clear hv5 Hl4 Hf4
 obtain ⟨gv,gt,hgw,hwv⟩:=Hl5.out.gw
 have q0:=Hl5.out.blk.cell 0
 have q1:=hgw.cell 0
 have hget:=WaveGet_any B gv L bh bb w5 hwv (by rw [HLl.out];exact hbN) (by have h9:=HLb.out;rw [List.getElem?_eq_getElem (by rw [HLl.out];exact hbN)] at h9;injection h9) HL257.out (by rw [HLl.out];omega)
 clear hgw hwv
 go_wp2_with fail
 refine hget.mono ?_
 clear hget
 rintro e w6 ⟨rfl,hv6⟩
 have Hl6:=Lib.hid (Hl5.out.vis hv6.1)
 have Hf6:=Lib.hid (Hf5.out.trans (LF.of_vb (own:=own) hv6))
 clear hv6 q0 q1 Hl5 Hf5
 obtain ⟨gv2,gt2,hgw,hwv⟩:=Hl6.out.gw
 have q0:=Hl6.out.blk.cell 0
 have q1:=hgw.cell 0
 have hget:=WaveGet_any B gv2 L k sk w6 hwv (by rw [HLl.out];exact hkN) (by have h9:=HLk.out;rw [List.getElem?_eq_getElem (by rw [HLl.out];exact hkN)] at h9;injection h9) HL257.out (by rw [HLl.out];omega)
 clear hgw hwv
 go_wp2_with fail
 refine hget.mono ?_
 clear hget
 rintro e w7 ⟨rfl,hv7⟩
 have Hl7:=Lib.hid (Hl6.out.vis hv7.1)
 have Hf7:=Lib.hid (Hf6.out.trans (LF.of_vb (own:=own) hv7))
 clear hv7 q0 q1 Hl6 Hf6
 have q0:=Hl7.out.blk.cell 0
 have hch:=WalkChange_any B gk own L T bh bb sk w7 Hl7.out.walk HLb.out hsk257 HL257.out (by rw [HLl.out];omega)
 go_wp2_with fail
 refine hch.mono ?_
 clear hch
 rintro e w8 ⟨rfl,own1,hE8,hG8⟩
 obtain ⟨hl8,hf8⟩:=Hl7.out.walkOp hE8 hG8
 have Hl8:=Lib.hid hl8
 have Hf8:=Lib.hid (Hf7.out.trans hf8)
 clear hl8 hf8 hE8 hG8 q0 Hl7 Hf7
 have q0:=Hl8.out.blk.cell 0
 have hcut:=WalkCut_any B gk own1 (L.set bh sk) T k sk w8 Hl8.out.walk Hsetk.out Hset257.out (by rw [List.length_set,HLl.out];omega)
 go_wp2_with fail
 refine hcut.mono ?_
 clear hcut
 rintro e w9 ⟨rfl,own2,hE9,hG9⟩
 obtain ⟨hl9,hf9⟩:=Hl8.out.walkOp hE9 hG9
 have Hl9:=Lib.hid hl9
 have Hf9:=Lib.hid (Hf8.out.trans hf9)
 clear hl9 hf9 hE9 hG9 q0 Hl8 Hf8
 have q0:=Hl9.out.blk.cell 0
 have hcnt:=WalkCountOut_any B gk own2 _ T (lastL (delN S at_) R1) bb w9 Hl9.out.walk Htal2.out hbb257 (by rw [HTl.out];omega)
 go_wp2_with fail
 refine hcnt.mono ?_
 clear hcnt
 rintro e wA ⟨rfl,hEA,hGA⟩
 obtain ⟨hlA,hfA⟩:=Hl9.out.walkOp hEA hGA
 have HlA:=Lib.hid hlA
 have HfA:=Lib.hid (Hf9.out.trans hfA)
 clear hlA hfA hEA hGA q0 Hl9 Hf9
 have q1:wA.cell? ⟨gl,1,none⟩=some (.pointer (some ⟨gp,0,none⟩)):=(HlA.out.blk.cell 1).trans rfl
 have hbA:=HlA.out.bnd
 have hro:=PermRowOut_any (fun b=>own2 b=1) gp (N+1+1) (N+1+1) k pr wA HlA.out.perm (fun b e=>(hbA b (by omega)).2) (by omega) (by omega) (by omega)
 clear hbA
 go_wp2_with fail
 refine hro.mono ?_
 clear hro
 rintro e wB ⟨rfl,⟨pr1,hm1,hPB⟩,hkB⟩
 obtain ⟨hlB,hfB⟩:=HlA.out.permOp hPB hkB
 obtain ⟨own3,ho3⟩:∃o,recol own2 wA.heap.size wB.heap.size 1=o:=⟨_,rfl⟩
 rw [ho3,Nat.add_sub_cancel] at hlB
 rw [ho3] at hfB
 have HlB:=Lib.hid hlB
 have HfB:=Lib.hid (HfA.out.trans hfB)
 have Hm1:=Lib.hid hm1
 clear hlB hfB hPB hkB q1 HlA HfA ho3 hm1
 have q1:wB.cell? ⟨gl,1,none⟩=some (.pointer (some ⟨gp,0,none⟩)):=(HlB.out.blk.cell 1).trans rfl
 have hbB:=HlB.out.bnd
 have hpo:=PermPosOut_any (fun b=>own3 b=1) gp (N+1) (N+1+1) at_ _ wB HlB.out.perm (fun b e=>(hbB b (by omega)).2) (by omega) (by omega) (by omega) (fun x hxx y hyy e=>by
  obtain ⟨x',hx',rfl⟩:=List.mem_map.1 hxx
  obtain ⟨y',hy',rfl⟩:=List.mem_map.1 hyy
  rw [Hrinj.out x' ((Hm1.out x').1 hx').1 y' ((Hm1.out y').1 hy').1 e])
 clear hbB
 go_wp2_with fail
 refine hpo.mono ?_
 clear hpo
 rintro e wC ⟨rfl,⟨pr2,hm2,hPC⟩,hkC⟩
 obtain ⟨hlC,hfC⟩:=HlB.out.permOp hPC hkC
 obtain ⟨own4,ho4⟩:∃o,recol own3 wB.heap.size wC.heap.size 1=o:=⟨_,rfl⟩
 rw [ho4,Nat.add_sub_cancel] at hlC
 rw [ho4] at hfC
 have hmem2:∀z,z∈pr2.map (fun x=>(x.1,outR x.2 at_))↔∃x∈pr,x.1≠k∧z=(outR x.1 k,outR x.2 at_):=fun z=>by
  constructor
  · intro hz
    obtain ⟨y,hy,rfl⟩:=List.mem_map.1 hz
    obtain ⟨hy1,hy2⟩:=(hm2 y).1 hy
    obtain ⟨x,hxx,rfl⟩:=List.mem_map.1 hy1
    obtain ⟨hx1,hx2⟩:=(Hm1.out x).1 hxx
    exact ⟨x,hx1,hx2,rfl⟩
  · rintro ⟨x,hx1,hx2,rfl⟩
    refine List.mem_map.2 ⟨(outR x.1 k,x.2),(hm2 _).2 ⟨List.mem_map.2 ⟨x,(Hm1.out x).2 ⟨hx1,hx2⟩,rfl⟩,(Hk1.out x hx1).1 hx2⟩,rfl⟩
 have hplc:∀p,Smp (pr2.map (fun x=>(x.1,outR x.2 at_))) p↔∃s,Smp pr s∧s≠at_∧p=ush at_ s:=fun p=>by
  constructor
  · rintro ⟨z,hz,rfl⟩
    obtain ⟨x,hx1,hx2,rfl⟩:=(hmem2 z).1 hz
    have hx3:=(Hk1.out x hx1).1 hx2
    exact ⟨x.2,⟨x,hx1,rfl⟩,hx3,outR_ush hx3⟩
  · rintro ⟨_,⟨x,hx1,rfl⟩,hx3,rfl⟩
    exact ⟨_,(hmem2 _).2 ⟨x,hx1,(Hk1.out x hx1).2 hx3,rfl⟩,outR_ush hx3⟩
 have HlC:=Lib.hid hlC
 have HfC:=Lib.hid (HfB.out.trans hfC)
 have Hmem2:=Lib.hid hmem2
 have Hplc:=Lib.hid hplc
 clear hlC hfC hPC hkC q1 HlB HfB ho4 hmem2 hplc hm2
 have ho1:=Out_any2 (bh:Int) (k:Int) wC (by omega)
 rw [outI_nat] at ho1
 have ho2:=Out_any2 ah (k:Int) wC hahb
 rw [HaOf.out] at ho2
 go_wp2_with fail
 refine ho1.mono ?_
 clear ho1
 rintro e wD ⟨rfl,rfl⟩
 go_wp2_with fail
 refine ho2.mono ?_
 clear ho2
 rintro e wD ⟨rfl,rfl⟩
 have hreo:=Reorder_any w wC B own own4 gl gk gp rate 0 (delN S at_) (lastL (delN S at_) R1) N at_ R1 (pr2.map (fun x=>(x.1,outR x.2 at_))) _ ⟨Hnear.out,by have:=HlC.out;rw [←HL2.out] at this;exact this,List.Perm.refl _,fun z hz=>by
  obtain ⟨x,hx1,hx2,rfl⟩:=(Hmem2.out z).1 hz
  exact Hpr2.out x hx1 hx2,fun p=>Iff.rfl,fun h0 e=>by
  obtain ⟨x,hx1,hx2⟩:=Hne0.out (by omega)
  have:=(Hmem2.out _).2 ⟨x,hx1,hx2,rfl⟩
  rw [e] at this
  exact absurd this List.not_mem_nil,HfC.out⟩ hat (by omega) (delN_lt HS257.out)
 rw [Hcur.out] at hreo
 unfold ReoPost at hreo
 go_wp2_with fail
 refine hreo.mono ?_
 clear hreo
 rintro e wE ⟨rfl,own5,mv5,R5,pr5,hI⟩
 have htl:(delN t at_).length=N:=by
  have:=delN_len t (k:=at_) (by rw [HN.out];omega)
  have:=HN.out
  omega
 have htx:TxM wE B own5 gl gk gp rate mv5 (symL (delN t at_)) (lastL (delN S at_) R1) N R5 pr5:=by
  rw [HS2.out]
  exact ⟨hI.near.sorted,hI.live,hI.tal,hI.right⟩
 have hfill:=Fill_any wE B own5 gl gk gp rate mv5 (delN t at_) (lastL (delN S at_) R1) N at_ R5 pr5 htx htl (by omega) hat hr1 hr2 (Hpg.out (Smp pr5) fun p=>(hI.plc p).trans (Hplc.out p))
 unfold FillPost at hfill
 have HlfD:=Lib.hid hI.lf
 have Htl:=Lib.hid htl
 clear htx htl hI
 go_wp2_with fail
 refine hfill.mono ?_
 clear hfill
 rintro e wF ⟨rfl,own6,pr6,htx6,hs6,hg6,hf6⟩
 have Htx6:=Lib.hid htx6
 have Hs6:=Lib.hid hs6
 have Hg6:=Lib.hid hg6
 have Hf6:=Lib.hid (HlfD.out.trans hf6)
 clear htx6 hs6 hg6 hf6 HlfD
 go_wp2_with fail
 go_ret
 exact ⟨rfl,own6,⟨gk,gp,mv5,lastL (delN S at_) R1,R5,pr6,by rw [Htl.out];exact Htx6.out,Hs6.out,by rw [Htl.out];exact Hg6.out⟩,Hf6.out⟩
end Go.Proofs.YtipaccakmndkgaaGreatDoor
namespace Go.Proofs.YtipaccakmndkgaaGreatDoor
open Go.RowKit
set_option linter.unusedVariables false
set_option linter.unusedSimpArgs false
theorem rise_ext:∀ {L M:List Nat},L.Pairwise (· < ·)→M.Pairwise (· < ·)→(∀x,x∈L↔x∈M)→L=M
 | [], [],_,_,_=>rfl
 | [],y::M,_,_,h=>absurd ((h y).2 List.mem_cons_self) List.not_mem_nil
 | x::L, [],_,_,h=>absurd ((h x).1 List.mem_cons_self) List.not_mem_nil
 | x::L,y::M,hL,hM,h=>by
   have hx:=(h x).1 List.mem_cons_self
   have hy:=(h y).2 List.mem_cons_self
   rw [List.pairwise_cons] at hL hM
   have e:x=y:=by
    rcases List.mem_cons.1 hx with e | e
    · exact e
    · rcases List.mem_cons.1 hy with e2 | e2
      · exact e2.symm
      · have:=hM.1 x e
        have:=hL.1 y e2
        omega
   subst e
   have:L=M:=rise_ext hL.2 hM.2 fun z=>by
    constructor
    · intro hz
      rcases List.mem_cons.1 ((h z).1 (List.mem_cons_of_mem _ hz)) with e | e
      · subst e
        exact absurd (hL.1 _ hz) (Nat.lt_irrefl _)
      · exact e
    · intro hz
      rcases List.mem_cons.1 ((h z).2 (List.mem_cons_of_mem _ hz)) with e | e
      · subst e
        exact absurd (hM.1 _ hz) (Nat.lt_irrefl _)
      · exact e
   rw [this]
theorem Made.lf {w w':World} {B0 B:Nat} {own own':Nat→Nat} {e:TypeId} {sz n c:Nat} {A:Option Addr} {xs:List Value} (h:Made w B e sz A n c xs) (k:LF B0 w w' own own') (h1:e≠226) (h2:e≠174) (hB:∀b,B≤b→own b=0):Made w' B e sz A n c xs:=by
 have h3:w'.ownsRow B e sz (.slice A n c) n xs:=by
  refine ⟨h.own.1,?_⟩
  rcases h.own.2 with q |⟨g,cap,cur,q1,q2,q3,q4⟩
  · exact .inl q
  · exact .inr ⟨g,cap,cur,q1,q2,k.vis.bk q3 h1 h2 (fun f=>f (hB g q2)),q4⟩
 exact ⟨h3,Rd.of_own h3,h.cap,h.max⟩
theorem LF.belowW {B:Nat} {w w':World} {own own':Nat→Nat} (k:LF B w w' own own') (hB:B≤w.heap.size):Below B w w':=k.keep.to_below hB fun b hb f=>by have f':B≤b:=f;omega
end Go.Proofs.YtipaccakmndkgaaGreatDoor
