/- The walks of walk's of and New, of live's New: what they make owns its blocks (WalkE, LiveE). Conditions: at most 127 bytes, a rate from 1 to 64. The walk of live's Delete. Conditions: at most 127 bytes ahead; a rate from 1 to 64. -/
import Derived.Test.YtipaccakmndkgaaGreatDoorPsl24
import Derived.Test.YtipaccakmndkgaaGreatDoorPsl40
import Derived.Test.YtipaccakmndkgaaGreatDoorPsl31
import Derived.Test.YtipaccakmndkgaaGreatDoorPsl37
import Derived.Test.YtipaccakmndkgaaGreatDoorPsl29
set_option linter.unusedVariables false
set_option linter.unusedSimpArgs false
set_option maxRecDepth 100000
set_option maxHeartbeats 4000000
namespace Go.Proofs.YtipaccakmndkgaaGreatDoor
open Go.RowKit Go.Shelf
theorem WaveS.low {w:World} {B B':Nat} {own:Nat→Nat} {gv:Nat} {S:Nat→Value} {Ls:Nat→List Nat} {n v:Int} (h:WaveS w B own gv S Ls n v) (hB:B'≤B):WaveS w B' own gv S Ls n v:=by
 refine ⟨h.blk,⟨Nat.le_trans hB h.base.1,h.base.2⟩,fun lv hl=>?_,fun b hb=>⟨Nat.le_trans hB (h.bnd b hb).1,(h.bnd b hb).2⟩⟩
 obtain ⟨G,g1,g2,g3⟩:=h.rows lv hl
 exact ⟨G,own_mono g1 hB,g2,g3⟩
theorem WalkE.low {w:World} {B B':Nat} {own:Nat→Nat} {gk:Nat} {L T:List Nat} (h:WalkE w B own gk L T) (hB:B'≤B):WalkE w B' own gk L T:=by
 obtain ⟨gv,gt,h1,h2,⟨S,v,h3⟩,h4,h5⟩:=h
 exact ⟨gv,gt,h1,h2,⟨S,v,h3.low hB⟩,h4,h5⟩
def ownK (own:Nat→Nat) (gt gk b:Nat):Nat:=if b=gt then 2 else if b=gk then 2 else own b
theorem WalkOfE_any (A:Option Addr) (m c B:Nat) (L:List Nat) (w:World) (hr:Rd w B 1 A m (L.map sv)) (hB:B≤w.heap.size) (hm:m≤128) (hL:∀s∈L,s < 257):
 Calls Tryz.prog 112 #[.slice A m c] w fun e w'=>∃gk own,e=.returned (.pointer (some ⟨gk,0,none⟩))∧w.heap.size≤gk∧WalkE w' w.heap.size own gk L L∧Below w.heap.size w w':=by
 have Hr:=lhd hr
 have HL:=lhd hL
 clear hr hL
 go_enter Tryz.func112,Tryz.ntmps112
 go_wp2_with fail
 refine (WaveNewE_any A m c B L _ Hr.out hB hm HL.out).mono ?_
 rintro e w1 ⟨gv,own,rfl,hwv,hb1⟩
 have Hwv:=lhd hwv
 have Hb1:=lhd hb1
 clear hwv hb1
 go_wp2_with fail
 refine (TallyNew_any A m c B L w1 (Hr.out.below (Hb1.out.mono hB)) (by have:=Hb1.out.size;omega) (by omega) HL.out).mono ?_
 rintro e w2 ⟨gt,rfl,hgt,htl,hb2⟩
 have hwv2:=Hwv.out.vis (Vis.of_below hb2)
 have hb3:=Hb1.out.trans (hb2.mono Hb1.out.size)
 have Hwv2:=lhd hwv2
 have Htl:=lhd htl
 have Hb3:=lhd hb3
 have Hsz2:=lhd hb2.size
 clear hwv2 htl hb3 hb2
 go_wp2_with fail
 go_ret
 have hw3:=Hwv2.out.vis (w':=w2.alloc (.cells #[.pointer (some ⟨gv,0,none⟩),.pointer (some ⟨gt,0,none⟩)] 99)) ((Vis.refl _).alloc _)
 have hbn:=Hwv.out.bnd
 have htl2:=Htl.out.lt
 have hb1s:=Hb1.out.size
 have hs2:=Hsz2.out
 have hpaint:=hw3.paint (own':=ownK own gt w2.heap.size) (fun b hb h2=>by
  have:=(hbn b (by omega)).2
  unfold ownK
  rw [if_neg (by omega),if_neg (by omega)]) (fun b hne=>by
  unfold ownK at hne
  by_cases c1:b=gt
  · subst c1
    exact ⟨by omega,by simp;omega⟩
  · rw [if_neg c1] at hne
    by_cases c2:b=w2.heap.size
    · subst c2
      exact ⟨by omega,by simp⟩
    · rw [if_neg c2] at hne
      have:=hbn b hne
      exact ⟨this.1,by simp;omega⟩)
 refine ⟨_,_,rfl,Hb3.out.size,⟨gv,gt,Bk.new _ _ _,?_,hpaint,Htl.out.alloc _,?_⟩,Hb3.out.alloc Hb3.out.size _⟩
 · unfold ownK
   rw [if_neg (by omega),if_pos rfl]
 · unfold ownK
   rw [if_pos rfl]
theorem WalkNewE_any (A:Option Addr) (m c B:Nat) (t:List UInt8) (w:World) (hr:Rd w B 1 A m (t.map bv)) (hB:B≤w.heap.size) (hm:m≤127):
 Calls Tryz.prog 48 #[.slice A m c] w fun e w'=>∃gk rs,IsSuf (symL t) rs∧e=.returned (.pointer (some ⟨gk,0,none⟩))∧w.heap.size≤gk∧(∃own,WalkE w' w.heap.size own gk (lastL (symL t) rs) (lastL (symL t) rs))∧Below w.heap.size w w':=by
 have Hr:=lhd hr
 clear hr
 go_enter Tryz.func48,Tryz.ntmps48
 go_wp2_with fail
 refine (SortedLast_any A m c B t _ Hr.out hB (by omega)).mono ?_
 rintro e w1 ⟨rs,A1,c1,hsuf,rfl,hm1,hb1⟩
 have Hsuf:=lhd hsuf
 have Hm1:=lhd hm1.rd
 have Hb1:=lhd hb1
 clear hsuf hm1 hb1
 go_wp2_with fail
 refine (WalkOfE_any A1 (m+1) c1 _ _ w1 Hm1.out (Nat.le_refl _) (by omega) (lastL_lt (symL_lt t))).mono ?_
 rintro e w2 ⟨gk,own,rfl,hgk,hwk,hb2⟩
 have hb3:=Hb1.out.trans (hb2.mono Hb1.out.size)
 have hz:=Hb1.out.size
 have Hwk:=lhd hwk
 clear hwk
 go_wp2_with fail
 go_ret
 exact ⟨gk,rs,Hsuf.out,rfl,by omega,⟨own,Hwk.out.low hz⟩,hb3⟩
theorem LiveE.far0 {w w':World} {B:Nat} {own:Nat→Nat} {gl:Nat} {t:List UInt8} {rate:Nat} {H:Nat→Prop} (h:LiveE w B own gl t rate) (k:Keep H w w') (hH:∀b,H b→own b=0):LiveE w' B own gl t rate:=by
 obtain ⟨gk,gp,mv,T,rs,pr,⟨h1,h2,h3,h4⟩,h5⟩:=h
 refine ⟨gk,gp,mv,T,rs,pr,⟨h1,⟨k.bk h2.blk fun f=>?_,h2.col,h2.walk.far k fun b f=>?_,h2.perm.keep k fun b f g=>?_⟩,h3,h4⟩,h5⟩
 · have:=hH _ f
   have:=h2.col
   omega
 · have:=hH b f
   omega
 · have:=hH b g
   omega
theorem LiveE.low {w:World} {B B':Nat} {own:Nat→Nat} {gl:Nat} {t:List UInt8} {rate:Nat} (h:LiveE w B own gl t rate) (hB:B'≤B):LiveE w B' own gl t rate:=by
 obtain ⟨gk,gp,mv,T,rs,pr,⟨h1,h2,h3,h4⟩,h5⟩:=h
 exact ⟨gk,gp,mv,T,rs,pr,⟨h1,⟨h2.blk,h2.col,h2.walk.low hB,h2.perm⟩,h3,h4⟩,h5⟩
theorem LiveE.tp {w:World} {B:Nat} {own:Nat→Nat} {gl:Nat} {t:List UInt8} {rate:Nat} (h:LiveE w B own gl t rate) (hn:t.length≤127):TpAt w B gl t rate:=by
 obtain ⟨gk,gp,mv,T,rs,pr,⟨h1,h2,h3,h4⟩,h5,h6⟩:=h
 exact ⟨rs,gk,gp,pr,h1,h2.g h3,h4,h5,hn⟩
open Classical in
noncomputable def ownL (own:Nat→Nat) (gp ga:Nat) (vl vo vt:Value) (gl b:Nat):Nat:=if PF gp ga vl vo vt b then 1 else if b=gl then 3 else own b
theorem PermAt.low {w:World} {B gp ga:Nat} {vl vo vt vf:Value} {R P:Nat} {ks:List Nat} {C:List (Nat×Nat)} {tk:List Bool} {fr:List Nat} (h:PermAt w B gp ga vl vo vt vf R P ks C tk fr):PermAt w 0 gp ga vl vo vt vf R P ks C tk fr:=
 ⟨h.blk,own_mono h.lrow (Nat.zero_le _),own_mono h.orow (Nat.zero_le _),h.ar,own_mono h.trow (Nat.zero_le _),own_mono h.frow (Nat.zero_le _),h.apart,h.lt,⟨Nat.zero_le _,Nat.zero_le _⟩⟩
theorem range_rows (C:List (Nat×Nat)):(List.range C.length).map (fun k=>(rowK C k,posK C k))=C:=(range_pairs C).symm
theorem samp_smp {rs:List Nat} {rate n p:Nat} (h:∃i,rs[i]?=some p∧i < n) (hp:p % rate=0):Smp (sampC rs rate n) p:=by
 obtain ⟨i,h1,h2⟩:=h
 exact ⟨(i,p),(sampM _ _ _ _ _).2 ⟨h2,by rw [List.getD_eq_getElem?_getD,h1];rfl,hp⟩,rfl⟩
theorem samp_gap {t:List UInt8} {rs:List Nat} {rate:Nat} (hs:IsSuf (symL t) rs) (hr:1≤rate):GapOk (Smp (sampC rs rate (t.length+1))) rate t.length:=fun s ⟨x,hx,e⟩ hN=>by
 obtain ⟨a,p⟩:=x
 have h1:=(sampM _ _ _ _ _).1 hx
 have e':p=s:=e
 subst e'
 refine ⟨p+rate,samp_smp ?_ (by rw [Nat.add_mod_right];exact h1.2.2),by omega,Nat.le_refl _⟩
 obtain ⟨j,hj,ej⟩:=hs.row (p:=p+rate) (by rw [symL_len];omega)
 refine ⟨j,by rw [List.getElem?_eq_getElem hj,ej],?_⟩
 have:=hs.len
 rw [symL_len] at this
 omega
theorem live_made {w wr:World} {Bw w2s B1:Nat} {own:Nat→Nat} {gl gk gp ga rate N:Nat} {vl vo vt:Value} {t:List UInt8} {rs:List Nat} {tk:List Bool} (hN:t.length=N) (hsuf:IsSuf (symL t) rs) (hr:1≤rate) (hn:N≤127) (hwk:WalkE wr Bw own gk (lastL (symL t) rs) (lastL (symL t) rs)) (hob:∀b,own b≠0→b < w2s) (hgl:gl=w2s) (hB1:w2s < B1) (hblk:Bk wr gl 87 #[.pointer (some ⟨gk,0,none⟩),.pointer (some ⟨gp,0,none⟩),.int .i64 (rate:Int),.int .i64 0])
 (hp:PermAt wr B1 gp ga vl vo vt (.slice none 0 0) (N+1) (N+1) (List.range (sampC rs rate (N+1)).length) (sampC rs rate (N+1)) tk []) (htl:tk.length=(sampC rs rate (N+1)).length) (htk:∀b∈tk,b=true) (hBw:Bw≤w2s):∃own',LiveE wr Bw own' gl t rate:=by
 subst hN
 have hfoot:∀b,PF gp ga vl vo vt b→B1≤b∧b < wr.heap.size:=fun b hb=>by
  refine ⟨hp.foot hb,?_⟩
  rcases hb with rfl | rfl | hb | hb | hb
  · exact hp.blk.lt
  · exact hp.ar.lt
  · exact (hp.lrow.lt _ hb).2
  · exact (hp.orow.lt _ hb).2
  · exact (hp.trow.lt _ hb).2
 have ho1:∀b,PF gp ga vl vo vt b→ownL own gp ga vl vo vt gl b=1:=fun b hb=>by unfold ownL;rw [if_pos hb]
 have hogl:ownL own gp ga vl vo vt gl gl=3:=by
  unfold ownL
  rw [if_neg (fun h=>by have:=(hfoot _ h).1;omega),if_pos rfl]
 have hoth:∀b,b < w2s→ownL own gp ga vl vo vt gl b=own b:=fun b hb=>by
  unfold ownL
  rw [if_neg (fun h=>by have:=(hfoot _ h).1;omega),if_neg (by omega)]
 have hrl:rs.length=t.length+1:=by rw [hsuf.len,symL_len]
 refine ⟨ownL own gp ga vl vo vt gl,gk,gp,0,_,rs,sampC rs rate (t.length+1),⟨hsuf,⟨hblk,hogl,hwk.paint (fun b _ h2=>hoth b (hob b (by omega))) (fun b hne=>?_),⟨⟨ga,vl,vo,vt,.slice none 0 0,List.range (sampC rs rate (t.length+1)).length,sampC rs rate (t.length+1),tk, [],?_,(range_rows _).symm⟩,sampC_sorted _ _ _,fun x hx=>?_⟩⟩,List.Perm.refl _,samp_right (by omega)⟩,?_,samp_gap hsuf hr⟩
 · unfold ownL at hne
   by_cases c1:PF gp ga vl vo vt b
   · have:=hfoot b c1
     exact ⟨by omega,this.2⟩
   · rw [if_neg c1] at hne
     by_cases c2:b=gl
     · subst c2
       exact ⟨by omega,hblk.lt⟩
     · rw [if_neg c2] at hne
       exact hwk.bnd b hne
 · have htg:∀k,k < tk.length→tk[k]?=some true:=fun k hk=>by
    rw [List.getElem?_eq_getElem hk]
    congr 1
    exact htk _ (List.getElem_mem hk)
   refine ⟨hp.low,ho1 _ (.inl rfl),ho1 _ (.inr (.inl rfl)),fun b hb=>ho1 _ (.inr (.inr (.inl hb))),fun b hb=>ho1 _ (.inr (.inr (.inr (.inl hb)))),fun b hb=>ho1 _ (.inr (.inr (.inr (.inr hb)))),fun b hb=>(by cases hb),List.nodup_range,htl,fun k=>?_,List.nodup_nil,fun k=>?_,by have:=sampC_le rs rate (t.length+1);omega⟩
   · rw [List.mem_range,←htl]
     constructor
     · intro h
       exact (List.getElem?_eq_some_iff.1 h).1
     · exact htg k
   · constructor
     · intro h
       cases h
     · intro h
       have h1:=htg k (List.getElem?_eq_some_iff.1 h).1
       rw [h1] at h
       cases h
 · have h1:=sampC_mem hx
   have h2:=samp_right (rs:=rs) (rate:=rate) (n:=t.length+1) (by omega) x hx
   have h3:=hsuf.lt (List.mem_of_getElem? h2)
   rw [symL_len] at h3
   exact ⟨h1.1,h3⟩
 · obtain ⟨x,hx,e⟩:=samp_zero (rate:=rate) hsuf
   exact ⟨x,hx,e⟩
theorem LiveNewE_any (rate:Nat) (A0:Option Addr) (m0 c0 B:Nat) (ss:List Sl) (t:List UInt8) (N:Nat) (hT:catS ss=t) (hN:t.length=N) (w:World) (hr0:Rd w B 1 A0 m0 (ss.map slV)) (hss:∀s∈ss,Rd w B 1 s.A s.n (s.l.map bv)) (hB:B≤w.heap.size) (hm:m0≤1000000) (hn:N≤127) (hr1:1≤rate) (hr2:rate≤64):
 Calls Tryz.prog 15 #[.int .i64 (rate:Int),.slice A0 m0 c0] w fun e w'=>∃gl own,e=.returned (.tuple #[.pointer (some ⟨gl,0,none⟩),.int .i64 0])∧w.heap.size≤gl∧LiveE w' w.heap.size own gl t rate∧Below w.heap.size w w':=by
 have hT2:=hN
 have hcat:=Concat_any A0 m0 c0 B ss t N hT hN w hr0 hss hB (by omega) (by omega)
 have hrI1:¬((rate:Int) < 1):=by omega
 have hrI2:¬((rate:Int) > 64):=by omega
 clear hr0 hss
 go_enter Tryz.func15,Tryz.ntmps15
 go_wp2_with fail
 refine hcat.mono ?_
 clear hcat
 rintro e w1 ⟨A1,c1,rfl,hm1,hb1⟩
 have hbb1:=hb1
 have hR1:=hm1.rd
 have HR1:=lhd hR1
 have Hb1:=lhd hb1
 clear hm1 hb1 hbb1 hR1
 go_wp2_with fail
 refine (WalkNewE_any A1 N c1 w1.heap.size t w1 HR1.out (Nat.le_refl _) hn).mono ?_
 rintro e w2 ⟨gk,rs,hsuf,rfl,hgk,hwk,hb2⟩
 have hR2:=HR1.out.below hb2
 have hb12:=Hb1.out.trans (hb2.mono Hb1.out.size)
 have Hsuf:=lhd hsuf
 obtain ⟨ownW,hwk⟩:=hwk
 have hob:=hwk.bnd
 have Hob:=lhd hob
 clear hob
 have Hwk:=lhd (hwk.low Hb1.out.size)
 have HR2:=lhd (hR2.mono hb2.size)
 have Hb2:=lhd hb12
 clear hsuf hwk hR2 hb12 hb2 HR1 Hb1 hgk
 go_wp2_with fail
 obtain ⟨n,hn1⟩:∃n,N+1=n:=⟨_,rfl⟩
 have hnI:(N:Int)+1=(n:Int):=by omega
 rw [hnI]
 have hlb:=Bk.new w2 87 #[.pointer (some ⟨gk,0,none⟩),.pointer none,.int .i64 (rate:Int),.int .i64 0]
 have hbA:Below w2.heap.size w2 (w2.alloc (.cells #[.pointer (some ⟨gk,0,none⟩),.pointer none,.int .i64 (rate:Int),.int .i64 0] 87)):=(Below.refl _ _).alloc (Nat.le_refl _) _
 obtain ⟨gl,hgl⟩:∃g,w2.heap.size=g:=⟨_,rfl⟩
 rw [hgl] at hlb
 rw [hgl]
 have Hgl:=lhd hgl
 generalize w2.alloc (.cells #[.pointer (some ⟨gk,0,none⟩),.pointer none,.int .i64 (rate:Int),.int .i64 0] 87)=w3 at hlb hbA⊢
 have Hlb:=lhd hlb
 have HbA:=lhd hbA
 have HN1:=lhd hn1
 clear hlb hbA hn1 hgl
 refine (PermNew_any n w3 (by omega)).mono ?_
 rintro e w4 ⟨gp,ga,rfl,hpm,hb4⟩
 have hlb4:=Hlb.out.below hb4 Hlb.out.lt
 have d1:w4.cell? ⟨gl,1,none⟩=some (.pointer none):=(hlb4.cell 1).trans rfl
 have f1:=hlb4.frozen 1
 have Hlb4:=lhd hlb4
 have Hpm:=lhd hpm
 have Hb4:=lhd hb4
 clear hlb4 hpm hb4
 go_wp2_with fail
 have hk45:=(Keep.refl (fun b=>b=gl) w4).setCell (p:=⟨gl,1,none⟩) (.inl rfl) (.pointer (some ⟨gp,0,none⟩))
 have hlb5:=Hlb4.out.set 1 (.pointer (some ⟨gp,0,none⟩))
 have hpm5:=Hpm.out.keep hk45 (fun b t cs f hb=>by
  subst f
  have:=(bk_inj hb Hlb4.out).1
  subst this
  decide)
 have hb25:Below w2.heap.size w2 (w4.setCell ⟨gl,1,none⟩ (.pointer (some ⟨gp,0,none⟩))):=(HbA.out.trans (Hb4.out.mono HbA.out.size)).setCell (by rw [Hgl.out];exact Nat.le_refl _) _
 have hgl2:=Hgl.out
 have HB1:=lhd (show w2.heap.size < w3.heap.size by have:=Hlb.out.lt;omega)
 have hB1:w2.heap.size≤w3.heap.size:=HbA.out.size
 clear d1 f1
 generalize w4.setCell ⟨gl,1,none⟩ (.pointer (some ⟨gp,0,none⟩))=w5 at hlb5 hpm5 hb25⊢
 have hrows:=SortedRows_any A1 N c1 w2.heap.size t w5 (HR2.out.below hb25) hb25.size (by omega)
 rw [HN1.out] at hrows
 have Hlb5:=lhd hlb5
 have Hpm5:=lhd hpm5
 have Hb25:=lhd hb25
 clear hk45 hlb5 hpm5 hb25
 refine hrows.mono ?_
 clear hrows
 rintro e w6 ⟨rs',A3,c3,hsuf',rfl,hm6,hb6⟩
 obtain rfl:rs=rs':=Hsuf.out.unique hsuf'
 have hlen:rs.length=n:=by rw [Hsuf.out.len,symL_len,hN,HN1.out]
 have hinv:LvInv w2 w3.heap.size w5.heap.size gl gk gp ga n rate A3 c3 rs 0 (.slice none 0 0) (.slice none 0 0) (.slice none 0 0) [] w6:=
  ⟨Hpm5.out.below hb6,rfl,fun a _ hb=>(by cases hb),hm6.own,Hlb5.out.below hb6 Hlb5.out.lt,Hb25.out.trans (hb6.mono Hb25.out.size)⟩
 have Hlen:=lhd hlen
 have Hinv:=lhd hinv
 clear hinv hm6 hb6 hsuf' hlen Hlb5 Hpm5 Hb25
 go_wp2_with fail
 go_loopw [8,9,36] (fun _ _ i wr=>∃k:Nat,k≤n∧i=.int .i64 k∧∃vl vo vt tk,LvInv w2 w3.heap.size w5.heap.size gl gk gp ga n rate A3 c3 rs k vl vo vt tk wr∧∀b∈tk,b=true) (fun _ _ i _=>n -(intOf i).toNat)
 case atStart=>exact ⟨0,by omega,rfl,_,_,_,_,Hinv.out,fun b hb=>by cases hb⟩
 case round=>
  clear Hinv
  obtain ⟨k,hk,rfl,vl,vo,vt,tk,hinv,htk⟩:=hrel
  have Htk:=lhd htk
  clear htk
  by_cases hlt:k < n
  · have hkl:k < rs.length:=by rw [Hlen.out];exact hlt
    obtain ⟨p,hp⟩:∃p,rs[k]?=some p:=⟨_,List.getElem?_eq_getElem hkl⟩
    have hpn:p < n:=by have:=Hsuf.out.lt (List.mem_of_getElem? hp);rw [symL_len,hN,HN1.out] at this;exact this
    have hgd:rs.getD k 0=p:=by rw [List.getD_eq_getElem?_getD,hp];rfl
    have hrd:=Rd.of_own hinv.row
    obtain ⟨b,off,u,hA3,hbl,hu,hc⟩:=hrd.get hlt
    rw [List.getElem?_map,hp] at hu
    injection hu with hu
    subst hu hA3
    unfold sv at hc
    have cg0:=hinv.blk.cell 1
    have hmt:((p:Int)).tmod (rate:Int)=((p % rate:Nat):Int):=by rw [Int.tmod_eq_emod_of_nonneg (by omega)];simp
    have hme:((p:Int))%(rate:Int)=((p % rate:Nat):Int):=by simp
    obtain ⟨q,hq⟩:∃q,p % rate=q:=⟨_,rfl⟩
    rw [hq] at hmt hme
    have hsc:=sampC_succ rs rate k
    rw [hgd,hq] at hsc
    have Hgd:=lhd hgd
    have Hp:=lhd hp
    have Hq:=lhd hq
    have Hinv:=lhd hinv
    have Hrl:=lhd hbl
    clear hgd hp hq hinv hrd hkl hbl
    by_cases hq0:q=0
    · subst hq0
      rw [if_pos rfl] at hsc
      have Hsc:=lhd hsc
      clear hsc
      go_wp2_with fail
      have hadd:=PermAdd_any w3.heap.size gp ga vl vo vt n n (List.range (sampC rs rate k).length) (sampC rs rate k) tk k p wr Hinv.out.perm (rowK_sorted (sampC_sorted rs rate k)) (fun j hj=>(sampC_mem (rowK_mem (by simpa using hj))).1) (fun j hj e=>by
       have h1:=sampC_mem (rowK_mem (C:=sampC rs rate k) (by simpa using hj))
       have h2:posK (sampC rs rate k) j=rs.getD (rowK (sampC rs rate k) j) 0:=h1.2
       have h3:rowK (sampC rs rate k) j < k:=h1.1
       have hkl:k < rs.length:=by rw [Hlen.out];exact hlt
       have h4:rs[rowK (sampC rs rate k) j]?=rs[k]?:=by
        rw [Hp.out,←e,h2,List.getD_eq_getElem?_getD,List.getElem?_eq_getElem (show rowK (sampC rs rate k) j < rs.length by omega)]
        rfl
       have:=(List.getElem?_inj (show rowK (sampC rs rate k) j < rs.length by omega) Hsuf.out.nodup).1 h4
       omega) hlt hpn Hinv.out.len (by
        have:(sampC rs rate k).length≤k:=by unfold sampC;rw [List.length_map];exact Nat.le_trans (List.length_filter_le _ _) (by simp)
        omega) (by
        have:(sampC rs rate k).length≤k:=by unfold sampC;rw [List.length_map];exact Nat.le_trans (List.length_filter_le _ _) (by simp)
        simp
        omega) (by have:=Hinv.out.perm.blk.lt;have:=Hinv.out.perm.lo.1;omega)
      refine hadd.mono ?_
      clear hadd
      rintro e w7 ⟨rfl,hk7,vl',vo',vt',hpm7,hf1,hf2,hf3⟩
      go_wp2_with fail
      go_roundw
      case rel=>
       have hinv:=Hinv.out
       refine ⟨k+1,by omega,by go_num,vl',vo',vt',tk++ [true],⟨?_,?_,?_,?_,?_,?_⟩,fun b hb=>by rcases List.mem_append.1 hb with h9 | h9;exact Htk.out b h9;exact List.mem_singleton.1 h9⟩
       · rw [Hsc.out]
         simpa [List.range_succ] using hpm7
       · rw [Hsc.out]
         simp [hinv.len]
       · exact hinv.apt.next2 hf1 (fun a ha=>by injection ha with ha;subst ha;exact Hrl.out)
       · refine own_same hinv.row fun b' cs hb' hbk=>hk7.bk hbk (fun f=>?_)
         rcases f with f | f | f | f | f
         · subst f;exact Bk.ne hbk hinv.perm.blk (by decide) rfl
         · subst f;exact Bk.ne hbk hinv.perm.ar (by decide) rfl
         · exact own_bk_ne hinv.perm.lrow hbk (by decide) f.symm
         · have hb2:b=b':=by simpa [Value.ownBlock] using hb'
           subst hb2
           exact hinv.apt _ rfl f
         · exact own_bk_ne hinv.perm.trow hbk (by decide) f.symm
       · refine hk7.bk hinv.blk (fun f=>?_)
         have:=hinv.perm.foot f
         have:=Hlb.out.lt
         omega
       · exact hinv.below.trans (hk7.to_below hinv.below.size (fun b' hb' f=>by have:=hinv.perm.foot f;omega))
      case measure=>simp [intOf];omega
    · rw [if_neg hq0] at hsc
      have Hsc:=lhd hsc
      have hqb:((q:Int)==0)=false:=by simp;omega
      clear hsc
      go_wp2_with fail
      go_roundw
      case rel=>
       have hinv:=Hinv.out
       exact ⟨k+1,by omega,by go_num,vl,vo,vt,tk,⟨by rw [Hsc.out];exact hinv.perm,by rw [Hsc.out];exact hinv.len,hinv.apt,hinv.row,hinv.blk,hinv.below⟩,Htk.out⟩
      case measure=>simp [intOf];omega
  · obtain rfl:n=k:=by omega
    have Hinv:=lhd hinv
    clear hinv
    go_wp2_with fail
    go_ret2
    have hinv:=Hinv.out
    have hp:=hinv.perm
    have hl:=hinv.len
    rw [←HN1.out] at hp hl
    obtain ⟨own',hE⟩:=live_made (w:=w) (w2s:=w2.heap.size) hT2 Hsuf.out hr1 hn (Hwk.out.vis (Vis.of_below hinv.below)) (fun b hb=>(Hob.out b hb).2) Hgl.out.symm HB1.out hinv.blk hp hl Htk.out Hb2.out.size
    exact ⟨gl,own',rfl,by have:=Hb2.out.size;have:=Hgl.out;omega,hE,Hb2.out.trans (hinv.below.mono Hb2.out.size)⟩
end Go.Proofs.YtipaccakmndkgaaGreatDoor
