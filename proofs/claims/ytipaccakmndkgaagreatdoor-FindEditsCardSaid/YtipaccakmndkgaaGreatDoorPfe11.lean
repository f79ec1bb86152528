/- The walks of the tree's Ones and Select. Conditions: at most 128 bits; there is such a bit; the table of math/bits stands in its variable. Plain laws of sorting suffixes by doubling. No conditions. -/
import Derived.Test.YtipaccakmndkgaaGreatDoorPfe8
import Derived.Test.YtipaccakmndkgaaGreatDoorPfe9
namespace Go.Proofs.YtipaccakmndkgaaGreatDoor
open Go.RowKit
set_option linter.unusedVariables false
set_option linter.unusedSimpArgs false
set_option maxRecDepth 100000 in
theorem TreeOnes_any (gt:Nat) (bs:List Bool) (w:World) (h:TreeAt w gt bs):
 Calls Tryz.prog 243 #[.pointer (some ⟨gt,0,none⟩)] w fun e w'=>e=.returned (.int .i64 ((bs.count true:Nat):Int))∧Below w.heap.size w w':=by
 obtain ⟨ga,v,⟨rfl,vl,h2⟩|⟨h1,h2,gl,cl,gb,h3⟩⟩:=h
 · have c2:w.cell? ⟨gt,2,none⟩=some (.int .i64 (-1)):=(h2.cell 2).trans rfl
   clear h2
   go_enter Tryz.func243,Tryz.ntmps243
   go_wp2
   go_ret
   exact ⟨rfl,Below.refl _ _⟩
 · obtain ⟨c0,c1,c2,c3,d0,d1,d2,d3,d4,d5,d6,d7⟩:=h3.cells
   clear h3
   go_enter Tryz.func243,Tryz.ntmps243
   go_wp2
   go_quiet (fail)
   go_wp2
   go_ret
   exact ⟨rfl,⟨rfl,rfl,rfl,Nat.le_refl _,fun _ _=>rfl⟩⟩
theorem TabW.visk {g:Nat} {w w':World} (h:TabW w) (k:VisK (fun b=>b=g) w w') (hg:1 < g) (hw:1 < w.heap.size):TabW w':=
 fun j hj=>(k.2.cell (p:=⟨1,j,none⟩) hw (by show ¬(1=g);omega)).trans (h j hj)
theorem count_lt {l:List Bool} {b:Bool} {p:Nat} (hp:l[p]?=some b):(l.take p).count b < l.count b:=by
 have hpl:=(List.getElem?_eq_some_iff.1 hp).1
 have e:l=l.take (p+1)++l.drop (p+1):=(List.take_append_drop _ _).symm
 have h1:l.count b=(l.take (p+1)).count b+(l.drop (p+1)).count b:=by rw [←List.count_append,List.take_append_drop]
 have h2:(l.take (p+1)).count b=(l.take p).count b+1:=by
  rw [List.take_add_one,hp,List.count_append]
  simp
 omega
set_option maxRecDepth 100000 in
set_option maxHeartbeats 1000000 in
theorem TreeSelect_any (gt:Nat) (bs:List Bool) (p j:Nat) (b:Bool) (w:World) (h:TreeAt w gt bs) (hp:bs[p]?=some b) (hj:(bs.take p).count b=j) (hT:TabW w) (hg0:1 < gt):
 Calls Tryz.prog 208 #[.pointer (some ⟨gt,0,none⟩),.int .i64 (j:Int),.bool b] w fun e w'=>e=.returned (.int .i64 (p:Int))∧VisK (fun b=>b=gt) w w':=by
 have hbl:bs.length≤128:=by
  obtain ⟨ga,v,⟨rfl,vl,h2⟩|⟨h1,h2,h3⟩⟩:=h
  · simp
  · exact h2
 have hpl:=(List.getElem?_eq_some_iff.1 hp).1
 have hclt:=count_lt hp
 rw [hj] at hclt
 have hcb:=count_both bs
 have hv0:∃cs,Bk w gt 226 cs∧3 < cs.size:=by
  obtain ⟨ga,v,⟨rfl,vl,h2⟩|⟨h1,h2,gl,cl,gb,h3⟩⟩:=h
  · exact ⟨_,h2,by simp⟩
  · exact ⟨_,h3.tree,by simp⟩
 obtain ⟨cs,hcs,hc3⟩:=hv0
 have hw0:1 < w.heap.size:=hT.pos
 have hv1:=VisK.set_tree hcs 0
 have ht1:=h.vis hv1.1
 have hgl:=hcs.lt
 have c3:w.cell? ⟨gt,3,none⟩=some cs[3]:=by rw [hcs.cell 3];simp [hc3]
 have f3:=hcs.frozen 3
 obtain ⟨N,hN⟩:∃N,bs.length=N:=⟨_,rfl⟩
 obtain ⟨o,ho⟩:∃o,bs.count true=o:=⟨_,rfl⟩
 rw [hN,ho] at hcb
 have hlike:j < (if b then o else N - o):=by
  cases b
  · simp;omega
  · simp;omega
 have hN128:N≤128:=by omega
 have hoN:o≤N:=by omega
 have hj128:j≤128:=by rw [←hj];exact Nat.le_trans List.count_le_length (by rw [List.length_take];omega)
 have hp128:p≤128:=by omega
 obtain ⟨r,hr⟩:∃r,(if b then o else N - o)=r:=⟨_,rfl⟩
 rw [hr] at hlike
 have HV:=Lib.hid hv1
 have Hh:=Lib.hid h
 have Hbl:=Lib.hid hbl
 have Ht:=Lib.hid ht1
 have HN:=Lib.hid hN
 have Hp:=Lib.hid hp
 have Hj:=Lib.hid hj
 have Ho:=Lib.hid ho
 have Hr:=Lib.hid hr
 have HT:=Lib.hid hT
 have Hlike:=Lib.hid hlike
 clear h hbl hv1 ht1 hcs hN hpl hclt hcb hp hj ho hr hT
 go_enter Tryz.func208,Tryz.ntmps208
 go_wp2_with fail
 clear c3 f3
 refine (TreeLen_any gt bs _ Ht.out).mono ?_
 rintro e w2 ⟨rfl,hb2⟩
 rw [HN.out]
 have hv2:=HV.out.below hb2
 have ht2:=Hh.out.vis hv2.1
 have HV2:=Lib.hid hv2
 have Ht2:=Lib.hid ht2
 clear hv2 ht2 HV Ht hb2
 go_wp2_with fail
 refine (TreeOnes_any gt bs _ Ht2.out).mono ?_
 rintro e w3 ⟨rfl,hb3⟩
 rw [Ho.out]
 have hv3:=HV2.out.below hb3
 have ht3:=Hh.out.vis hv3.1
 have HV3:=Lib.hid hv3
 have Ht3:=Lib.hid ht3
 clear hv3 ht3 HV2 Ht2 hb3
 go_wp2_with fail
 refine (like_any N o b _ hN128 hoN).mono ?_
 rintro e w4 ⟨rfl,hb4⟩
 rw [Hr.out]
 have hv4:=HV3.out.below hb4
 have ht4:=Hh.out.vis hv4.1
 have hn1:¬r≤j:=by omega
 have hn2:decide (r≤j)=false:=decide_eq_false hn1
 obtain ⟨ga,v,⟨hbe,_,_⟩|⟨hbe,hb2,gl,cl,gb,hl⟩⟩:=ht4
 · have h1:=Hp.out
   rw [hbe] at h1
   simp at h1
 obtain ⟨c0,c1,c2,c3,d0,d1,d2,d3,d4,d5,d6,d7⟩:=hl.cells
 have hl2:=hl.row.lt
 have hgl2:=hl.tree.lt
 have hgt_gl:gt≠gl:=hl.row.bk_ne hl.tree (by decide)
 have f3:=hl.tree.frozen 3
 have Hl:=Lib.hid hl
 have H2:=Lib.hid hb2
 have HV4:=Lib.hid hv4
 clear hl hb2 hbe hv4 hb4 HV3 Ht3
 go_wp2_with fail
 go_loopw [1,7,8] (fun x y z wr=>x=.int .i64 (j:Int)∧y=.int .i64 0∧z=.int .i64 0∧wr=w4) (fun _ _ _ _=>0)
 case atStart=>exact ⟨rfl,rfl,rfl,rfl⟩
 case round=>
  obtain ⟨rfl,rfl,rfl,rfl⟩:=hrel
  go_wp2_with fail
  refine (like_any 0 0 b _ (by omega) (Nat.le_refl _)).mono ?_
  rintro e w5 ⟨rfl,hb5⟩
  have e0:(if b=true then 0 else 0 - 0:Nat)=0:=by cases b <;> rfl
  rw [e0]
  have hgb:=Bk.ne Hl.out.blk Hl.out.tree (by decide)
  have hv5:=(VisK.set_tree Hl.out.tree (wrap64 (v+1))).alloc (.cells #[.int .i64 (-1),.int .i64 (-1),.int .i64 0,.int .i64 (bs.length:Int),.int .i64 ((bs.count true:Nat):Int),.int .i64 0,.int .i64 0,.pointer (some ⟨gb,0,none⟩)] 229)
  have hw5:=hv5.below hb5
  have hblk:=(Hl.out.blk.far (p:=⟨gt,3,none⟩) hgb (.int .i64 (wrap64 (v+1)))).alloc (.cells #[.int .i64 (-1),.int .i64 (-1),.int .i64 0,.int .i64 (bs.length:Int),.int .i64 ((bs.count true:Nat):Int),.int .i64 0,.int .i64 0,.pointer (some ⟨gb,0,none⟩)] 229)
  have hblk5:=hblk.below hb5 hblk.lt
  have hx7:=hb5.cell (p:=⟨wr.heap.size,7,none⟩) (by simp [World.setCell])
  have hTw:=((HV4.out.trans hv5).below hb5)
  have HT5:=Lib.hid (HT.out.visk hTw hg0 hw0)
  have HV5:=Lib.hid hTw
  have Hblk5:=Lib.hid hblk5
  clear hw5 hblk hblk5 hv5 hTw hb5
  go_wp2_with fail
  refine (BlockSelect_any gb bs b p j _ Hblk5.out H2.out Hp.out Hj.out HT5.out).mono ?_
  rintro e w6 ⟨rfl,hb6⟩
  have hv6:=HV5.out.below hb6
  have e5:IntKind.i64.wrap (p:Int)=(p:Int):=by rw [IntKind.wrap_i64];omega
  go_wp2_with fail
  go_ret
  exact ⟨ret_i64 (by omega),hv6⟩
end Go.Proofs.YtipaccakmndkgaaGreatDoor
namespace Go.Proofs.YtipaccakmndkgaaGreatDoor
set_option linter.unusedVariables false
set_option linter.unusedSimpArgs false
def aN (l:List Nat) (p:Nat):Int:=match l[p]? with
 | some x=>(x:Int)
 | none=>-1
theorem aN_lt {l:List Nat} {p:Nat} (h:p < l.length):aN l p=(l[p]:Int):=by
 unfold aN
 rw [List.getElem?_eq_getElem h]
theorem aN_some {l:List Nat} {p x:Nat} (h:l[p]?=some x):aN l p=(x:Int):=by
 unfold aN
 rw [h]
theorem aN_ge {l:List Nat} {p:Nat} (h:l.length≤p):aN l p=-1:=by
 unfold aN
 rw [List.getElem?_eq_none h]
theorem aN_nonneg {l:List Nat} {p:Nat} (h:p < l.length):0≤aN l p:=by
 rw [aN_lt h]
 omega
section
variable (a : Nat → Int)
def eqW (w i j:Nat):Prop:=∀m,m < w→a (i+m)=a (j+m)
def ltW (w i j:Nat):Prop:=∃k,k < w∧(∀m,m < k→a (i+m)=a (j+m))∧a (i+k) < a (j+k)
variable {a}
theorem eqW.symm {w i j:Nat} (h:eqW a w i j):eqW a w j i:=fun m hm=>(h m hm).symm
theorem eqW.trans {w i j k:Nat} (h:eqW a w i j) (h':eqW a w j k):eqW a w i k:=fun m hm=>(h m hm).trans (h' m hm)
theorem eqW.refl (w i:Nat):eqW a w i i:=fun _ _=>rfl
theorem ltW_tri (w i j:Nat):ltW a w i j∨eqW a w i j∨ltW a w j i:=by
 induction w with
 | zero=>exact .inr (.inl fun m hm=>absurd hm (by omega))
 | succ w ih=>
   rcases ih with ⟨k,h1,h2⟩| h |⟨k,h1,h2⟩
   · exact .inl ⟨k,by omega,h2⟩
   · rcases Int.lt_trichotomy (a (i+w)) (a (j+w)) with h1 | h1 | h1
     · exact .inl ⟨w,by omega,h,h1⟩
     · refine .inr (.inl fun m hm=>?_)
       rcases Nat.lt_or_ge m w with h2 | h2
       · exact h m h2
       · have:m=w:=by omega
         subst this
         exact h1
     · exact .inr (.inr ⟨w,by omega,h.symm,h1⟩)
   · exact .inr (.inr ⟨k,by omega,h2⟩)
theorem ltW.not_eq {w i j:Nat} (h:ltW a w i j):¬eqW a w i j:=by
 obtain ⟨k,h1,h2,h3⟩:=h
 intro he
 have:=he k h1
 omega
theorem ltW.trans {w i j k:Nat} (h:ltW a w i j) (h':ltW a w j k):ltW a w i k:=by
 obtain ⟨p,p1,p2,p3⟩:=h
 obtain ⟨q,q1,q2,q3⟩:=h'
 rcases Nat.lt_trichotomy p q with e | e | e
 · exact ⟨p,p1,fun m hm=>(p2 m hm).trans (q2 m (by omega)),by rw [←q2 p e];exact p3⟩
 · subst e
   exact ⟨p,p1,fun m hm=>(p2 m hm).trans (q2 m hm),Int.lt_trans p3 q3⟩
 · exact ⟨q,q1,fun m hm=>(p2 m (by omega)).trans (q2 m hm),by rw [p2 q e];exact q3⟩
theorem ltW.irrefl {w i:Nat} (h:ltW a w i i):False:=h.not_eq (eqW.refl _ _)
theorem ltW.asymm {w i j:Nat} (h:ltW a w i j) (h':ltW a w j i):False:=(h.trans h').irrefl
theorem ltW.eq_right {w i j k:Nat} (h:ltW a w i j) (h':eqW a w j k):ltW a w i k:=by
 obtain ⟨p,p1,p2,p3⟩:=h
 exact ⟨p,p1,fun m hm=>(p2 m hm).trans (h' m (by omega)),by rw [←h' p p1];exact p3⟩
theorem ltW.eq_left {w i j k:Nat} (h':eqW a w i j) (h:ltW a w j k):ltW a w i k:=by
 obtain ⟨p,p1,p2,p3⟩:=h
 exact ⟨p,p1,fun m hm=>(h' m (by omega)).trans (p2 m hm),by rw [h' p p1];exact p3⟩
theorem ltW.le_right {w i j k:Nat} (h:ltW a w i j) (h':¬ltW a w k j):ltW a w i k:=by
 rcases ltW_tri (a:=a) w j k with h1 | h1 | h1
 · exact h.trans h1
 · exact h.eq_right h1
 · exact absurd h1 h'
theorem eqW_double (w i j:Nat):eqW a (w+w) i j↔eqW a w i j∧eqW a w (i+w) (j+w):=by
 constructor
 · intro h
   refine ⟨fun m hm=>h m (by omega),fun m hm=>?_⟩
   have:=h (w+m) (by omega)
   rwa [←Nat.add_assoc,←Nat.add_assoc] at this
 · intro ⟨h1,h2⟩ m hm
   rcases Nat.lt_or_ge m w with h | h
   · exact h1 m h
   · have:=h2 (m - w) (by omega)
     rwa [show i+w+(m - w)=i+m by omega,show j+w+(m - w)=j+m by omega] at this
theorem ltW_double (w i j:Nat):ltW a (w+w) i j↔ltW a w i j∨(eqW a w i j∧ltW a w (i+w) (j+w)):=by
 constructor
 · intro ⟨k,h1,h2,h3⟩
   rcases Nat.lt_or_ge k w with h | h
   · exact .inl ⟨k,h,h2,h3⟩
   · refine .inr ⟨fun m hm=>h2 m (by omega),k - w,by omega,fun m hm=>?_,?_⟩
     · have:=h2 (w+m) (by omega)
       rwa [←Nat.add_assoc,←Nat.add_assoc] at this
     · rwa [show i+w+(k - w)=i+k by omega,show j+w+(k - w)=j+k by omega]
 · rintro (⟨k,h1,h2,h3⟩|⟨h0,k,h1,h2,h3⟩)
   · exact ⟨k,by omega,h2,h3⟩
   · refine ⟨w+k,by omega,fun m hm=>?_,by rwa [←Nat.add_assoc,←Nat.add_assoc]⟩
     rcases Nat.lt_or_ge m w with h | h
     · exact h0 m h
     · have:=h2 (m - w) (by omega)
       rwa [show i+w+(m - w)=i+m by omega,show j+w+(m - w)=j+m by omega] at this
def RankOk (a r:Nat→Int) (w:Nat):Prop:=∀i j,r i < r j↔ltW a w i j
theorem RankOk.eq {r:Nat→Int} {w:Nat} (h:RankOk a r w) (i j:Nat):r i=r j↔eqW a w i j:=by
 constructor
 · intro e
   rcases ltW_tri (a:=a) w i j with h1 | h1 | h1
   · have:=(h i j).2 h1
     omega
   · exact h1
   · have:=(h j i).2 h1
     omega
 · intro e
   have h1:¬(r i < r j):=fun x=>((h i j).1 x).not_eq e
   have h2:¬(r j < r i):=fun x=>((h j i).1 x).not_eq e.symm
   omega
def ordV (r:Nat→Int) (w i j:Nat):Int:=if r i≠r j then r i - r j else r (i+w) - r (j+w)
theorem ordV_lt {r:Nat→Int} {w:Nat} (h:RankOk a r w) (i j:Nat):ordV r w i j < 0↔ltW a (w+w) i j:=by
 unfold ordV
 rw [ltW_double]
 by_cases e:r i=r j
 · rw [if_neg (by simpa using e)]
   have h1:¬ltW a w i j:=fun x=>by have:=(h i j).2 x;omega
   have h2:=(h.eq i j).1 e
   have h3:=h (i+w) (j+w)
   constructor
   · intro h4
     exact .inr ⟨h2,h3.1 (by omega)⟩
   · rintro (h4 |⟨_,h4⟩)
     · exact absurd h4 h1
     · have:=h3.2 h4
       omega
 · rw [if_pos e]
   have h3:=h i j
   constructor
   · intro h4
     exact .inl (h3.1 (by omega))
   · rintro (h4 |⟨h4,_⟩)
     · have:=h3.2 h4
       omega
     · exact absurd ((h.eq i j).2 h4) e
theorem ordV_eq {r:Nat→Int} {w:Nat} (h:RankOk a r w) (i j:Nat):ordV r w i j=0↔eqW a (w+w) i j:=by
 unfold ordV
 rw [eqW_double]
 by_cases e:r i=r j
 · rw [if_neg (by simpa using e)]
   constructor
   · intro h4
     exact ⟨(h.eq i j).1 e,(h.eq _ _).1 (by omega)⟩
   · intro ⟨_,h4⟩
     have:=(h.eq _ _).2 h4
     omega
 · rw [if_pos e]
   constructor
   · intro h4
     exact absurd (show r i=r j by omega) e
   · intro ⟨h4,_⟩
     exact absurd ((h.eq i j).2 h4) e
def cN (o:Nat→Nat→Int) (f:Nat→Nat):Nat→Nat
 | 0=>0
 | i+1=>cN o f i+(if o (f i) (f (i+1))≠0 then 1 else 0)
theorem cN_step (o:Nat→Nat→Int) (f:Nat→Nat) (i:Nat):cN o f i≤cN o f (i+1)∧cN o f (i+1)≤cN o f i+1:=by
 show cN o f i≤cN o f i+_∧cN o f i+_≤cN o f i+1
 split <;> omega
theorem cN_le (o:Nat→Nat→Int) (f:Nat→Nat) (i d:Nat):cN o f i≤cN o f (i+d)∧cN o f (i+d)≤cN o f i+d:=by
 induction d with
 | zero=>exact ⟨Nat.le_refl _,Nat.le_refl _⟩
 | succ d ih=>
   have:=cN_step o f (i+d)
   rw [←Nat.add_assoc]
   omega
theorem cN_rank {o:Nat→Nat→Int} {f:Nat→Nat} {w n:Nat} (ho:∀i j,o i j=0↔eqW a w i j) (hs:∀i,i+1 < n→¬ltW a w (f (i+1)) (f i)) (i d:Nat) (hn:i+d < n):
 (cN o f i < cN o f (i+d)↔ltW a w (f i) (f (i+d)))∧¬ltW a w (f (i+d)) (f i):=by
 induction d with
 | zero=>exact ⟨⟨fun h=>absurd h (by simp),fun h=>h.irrefl.elim⟩,fun h=>h.irrefl⟩
 | succ d ih=>
   obtain ⟨h1,h2⟩:=ih (by omega)
   have h3:=hs (i+d) (by omega)
   have hm:=cN_le o f i d
   have he:cN o f (i+(d+1))=cN o f (i+d)+(if o (f (i+d)) (f (i+d+1))≠0 then 1 else 0):=rfl
   rw [show i+(d+1)=i+d+1 from rfl] at he⊢
   have h4:¬ltW a w (f (i+d+1)) (f i):=fun h=>h3 (h.le_right h2)
   refine ⟨?_,h4⟩
   by_cases hz:o (f (i+d)) (f (i+d+1))=0
   · have hq:=(ho _ _).1 hz
     rw [he,if_neg (by simpa using hz),Nat.add_zero,h1]
     exact ⟨fun h=>h.eq_right hq,fun h=>h.eq_right hq.symm⟩
   · rw [he,if_pos hz]
     refine ⟨fun _=>?_,fun _=>by omega⟩
     have h5:ltW a w (f (i+d)) (f (i+d+1)):=by
        rcases ltW_tri (a:=a) w (f (i+d)) (f (i+d+1)) with h | h | h
        · exact h
        · exact absurd ((ho _ _).2 h) hz
        · exact absurd h h3
     rcases ltW_tri (a:=a) w (f i) (f (i+d)) with h | h | h
     · exact h.trans h5
     · exact ltW.eq_left h h5
     · exact absurd h h2
end
theorem not_eqW {l:List Nat} {w i j:Nat} (hw:l.length≤w) (hi:i < l.length) (hj:j < l.length) (hij:i≠j):¬eqW (aN l) w i j:=by
 intro h
 rcases Nat.lt_or_ge i j with e | e
 · have h1:=h (l.length - j) (by omega)
   rw [aN_ge (show l.length≤j+(l.length - j) by omega)] at h1
   have:=aN_nonneg (l:=l) (p:=i+(l.length - j)) (by omega)
   omega
 · have h1:=h (l.length - i) (by omega)
   rw [aN_ge (show l.length≤i+(l.length - i) by omega)] at h1
   have:=aN_nonneg (l:=l) (p:=j+(l.length - i)) (by omega)
   omega
theorem rank_next {l R:List Nat} {o:Nat→Nat→Int} {f:Nat→Nat} {w:Nat} (hw:0 < w) (ho:∀i j,o i j=0↔eqW (aN l) w i j) (hs:∀i,i+1 < l.length→¬ltW (aN l) w (f (i+1)) (f i))
 (hlen:R.length=l.length) (hR:∀i,i < l.length→R[f i]?=some (cN o f i)) (hsur:∀p,p < l.length→∃i,i < l.length∧f i=p):RankOk (aN l) (aN R) w:=by
 have main:∀i j,i < l.length→j < l.length→(aN R (f i) < aN R (f j)↔ltW (aN l) w (f i) (f j)):=by
  intro i j hi hj
  rw [aN_some (hR i hi),aN_some (hR j hj)]
  rcases Nat.lt_or_ge i j with e | e
  · have:=(cN_rank ho hs i (j - i) (by omega)).1
    rw [show i+(j - i)=j by omega] at this
    rw [←this]
    omega
  · have h1:=cN_rank ho hs j (i - j) (by omega)
    rw [show j+(i - j)=i by omega] at h1
    have h2:=(cN_le o f j (i - j)).1
    rw [show j+(i - j)=i by omega] at h2
    exact ⟨fun h=>absurd h (by omega),fun h=>absurd h h1.2⟩
 intro p q
 rcases Nat.lt_or_ge p l.length with hp | hp
 · obtain ⟨i,hi,rfl⟩:=hsur p hp
   rcases Nat.lt_or_ge q l.length with hq | hq
   · obtain ⟨j,hj,rfl⟩:=hsur q hq
     exact main i j hi hj
   · have h1:=aN_nonneg (l:=R) (p:=f i) (by rw [hlen];exact hp)
     have h2:=aN_ge (l:=R) (p:=q) (by rw [hlen];exact hq)
     refine ⟨fun h=>absurd h (by omega),fun ⟨k,k1,k2,k3⟩=>?_⟩
     exfalso
     have h3:=aN_nonneg (l:=l) (p:=f i) hp
     rcases k with _ | k
     · rw [Nat.add_zero,Nat.add_zero,aN_ge hq] at k3
       omega
     · have:=k2 0 (by omega)
       rw [Nat.add_zero,Nat.add_zero,aN_ge hq] at this
       omega
 · have h2:=aN_ge (l:=R) (p:=p) (by rw [hlen];exact hp)
   rcases Nat.lt_or_ge q l.length with hq | hq
   · have h1:=aN_nonneg (l:=R) (p:=q) (by rw [hlen];exact hq)
     refine ⟨fun _=>⟨0,hw,fun m hm=>absurd hm (by omega),?_⟩,fun _=>by omega⟩
     rw [Nat.add_zero,Nat.add_zero,aN_ge hp]
     have:=aN_nonneg (l:=l) (p:=q) hq
     omega
   · have h1:=aN_ge (l:=R) (p:=q) (by rw [hlen];exact hq)
     refine ⟨fun h=>absurd h (by omega),fun ⟨k,k1,k2,k3⟩=>?_⟩
     rw [aN_ge (by omega),aN_ge (by omega)] at k3
     exact absurd k3 (by omega)
theorem cN_all {a:Nat→Int} {o:Nat→Nat→Int} {f:Nat→Nat} {w n:Nat} (ho:∀i j,o i j=0↔eqW a w i j) (hs:∀i,i+1 < n→¬ltW a w (f (i+1)) (f i)) (hn:0 < n) (hl:cN o f (n - 1)=n - 1) (i j:Nat) (hij:i < j) (hj:j < n):ltW a w (f i) (f j):=by
 have h1:=cN_le o f 0 i
 have h2:=cN_le o f i (j - i)
 have h3:=cN_le o f j (n - 1 - j)
 have h0:cN o f 0=0:=rfl
 rw [Nat.zero_add] at h1
 rw [show i+(j - i)=j by omega] at h2
 rw [show j+(n - 1 - j)=n - 1 by omega] at h3
 have h4:=(cN_rank ho hs i (j - i) (by omega)).1
 rw [show i+(j - i)=j by omega] at h4
 exact h4.1 (by omega)
theorem cN_full {o:Nat→Nat→Int} {f:Nat→Nat} {n:Nat} (h:∀i,i+1 < n→o (f i) (f (i+1))≠0) (i:Nat) (hi:i < n):cN o f i=i:=by
 induction i with
 | zero=>rfl
 | succ i ih=>
   show cN o f i+_=_
   rw [if_pos (h i hi),ih (by omega)]
theorem rank_start (l:List Nat):RankOk (aN l) (aN l) 1:=by
 intro i j
 constructor
 · intro h
   exact ⟨0,by omega,fun m hm=>absurd hm (by omega),h⟩
 · rintro ⟨k,h1,_,h3⟩
   have:k=0:=by omega
   subst this
   exact h3
end Go.Proofs.YtipaccakmndkgaaGreatDoor
