/- Plain laws of sorting suffixes by doubling. No conditions. The walks of the wave's rank of one tree: the closure, look, rank. No conditions. -/
import Derived.Test.YtipaccakmndkgaaGreatPwa9
import Derived.Test.YtipaccakmndkgaaGreatPwa10
namespace Go.Proofs.YtipaccakmndkgaaGreat
set_option linter.unusedVariables false
set_option linter.unusedSimpArgs false
def aN (l:List Nat) (p:Nat):Int:=match l[p]? with
 | some x=>(x:Int)
 | none=>-1
theorem aN_lt {l:List Nat} {p:Nat} (h:p < l.length):aN l p=(l[p]:Int):=by
 unfold aN
 rw [List.getElem?_eq_getElem h]
theorem aN_some {l:List Nat} {p x:Nat} (h:l[p]?=some x):aN l p=(x:Int):=by
 unfold aN
 rw [h]
theorem aN_ge {l:List Nat} {p:Nat} (h:l.length≤p):aN l p=-1:=by
 unfold aN
 rw [List.getElem?_eq_none h]
theorem aN_nonneg {l:List Nat} {p:Nat} (h:p < l.length):0≤aN l p:=by
 rw [aN_lt h]
 omega
section
variable (a : Nat → Int)
def eqW (w i j:Nat):Prop:=∀m,m < w→a (i+m)=a (j+m)
def ltW (w i j:Nat):Prop:=∃k,k < w∧(∀m,m < k→a (i+m)=a (j+m))∧a (i+k) < a (j+k)
variable {a}
theorem eqW.symm {w i j:Nat} (h:eqW a w i j):eqW a w j i:=fun m hm=>(h m hm).symm
theorem eqW.trans {w i j k:Nat} (h:eqW a w i j) (h':eqW a w j k):eqW a w i k:=fun m hm=>(h m hm).trans (h' m hm)
theorem eqW.refl (w i:Nat):eqW a w i i:=fun _ _=>rfl
theorem ltW_tri (w i j:Nat):ltW a w i j∨eqW a w i j∨ltW a w j i:=by
 induction w with
 | zero=>exact .inr (.inl fun m hm=>absurd hm (by omega))
 | succ w ih=>
   rcases ih with ⟨k,h1,h2⟩| h |⟨k,h1,h2⟩
   · exact .inl ⟨k,by omega,h2⟩
   · rcases Int.lt_trichotomy (a (i+w)) (a (j+w)) with h1 | h1 | h1
     · exact .inl ⟨w,by omega,h,h1⟩
     · refine .inr (.inl fun m hm=>?_)
       rcases Nat.lt_or_ge m w with h2 | h2
       · exact h m h2
       · have:m=w:=by omega
         subst this
         exact h1
     · exact .inr (.inr ⟨w,by omega,h.symm,h1⟩)
   · exact .inr (.inr ⟨k,by omega,h2⟩)
theorem ltW.not_eq {w i j:Nat} (h:ltW a w i j):¬eqW a w i j:=by
 obtain ⟨k,h1,h2,h3⟩:=h
 intro he
 have:=he k h1
 omega
theorem ltW.trans {w i j k:Nat} (h:ltW a w i j) (h':ltW a w j k):ltW a w i k:=by
 obtain ⟨p,p1,p2,p3⟩:=h
 obtain ⟨q,q1,q2,q3⟩:=h'
 rcases Nat.lt_trichotomy p q with e | e | e
 · exact ⟨p,p1,fun m hm=>(p2 m hm).trans (q2 m (by omega)),by rw [←q2 p e];exact p3⟩
 · subst e
   exact ⟨p,p1,fun m hm=>(p2 m hm).trans (q2 m hm),Int.lt_trans p3 q3⟩
 · exact ⟨q,q1,fun m hm=>(p2 m (by omega)).trans (q2 m hm),by rw [p2 q e];exact q3⟩
theorem ltW.irrefl {w i:Nat} (h:ltW a w i i):False:=h.not_eq (eqW.refl _ _)
theorem ltW.asymm {w i j:Nat} (h:ltW a w i j) (h':ltW a w j i):False:=(h.trans h').irrefl
theorem ltW.eq_right {w i j k:Nat} (h:ltW a w i j) (h':eqW a w j k):ltW a w i k:=by
 obtain ⟨p,p1,p2,p3⟩:=h
 exact ⟨p,p1,fun m hm=>(p2 m hm).trans (h' m (by omega)),by rw [←h' p p1];exact p3⟩
theorem ltW.eq_left {w i j k:Nat} (h':eqW a w i j) (h:ltW a w j k):ltW a w i k:=by
 obtain ⟨p,p1,p2,p3⟩:=h
 exact ⟨p,p1,fun m hm=>(h' m (by omega)).trans (p2 m hm),by rw [h' p p1];exact p3⟩
theorem ltW.le_right {w i j k:Nat} (h:ltW a w i j) (h':¬ltW a w k j):ltW a w i k:=by
 rcases ltW_tri (a:=a) w j k with h1 | h1 | h1
 · exact h.trans h1
 · exact h.eq_right h1
 · exact absurd h1 h'
theorem eqW_double (w i j:Nat):eqW a (w+w) i j↔eqW a w i j∧eqW a w (i+w) (j+w):=by
 constructor
 · intro h
   refine ⟨fun m hm=>h m (by omega),fun m hm=>?_⟩
   have:=h (w+m) (by omega)
   rwa [←Nat.add_assoc,←Nat.add_assoc] at this
 · intro ⟨h1,h2⟩ m hm
   rcases Nat.lt_or_ge m w with h | h
   · exact h1 m h
   · have:=h2 (m - w) (by omega)
     rwa [show i+w+(m - w)=i+m by omega,show j+w+(m - w)=j+m by omega] at this
theorem ltW_double (w i j:Nat):ltW a (w+w) i j↔ltW a w i j∨(eqW a w i j∧ltW a w (i+w) (j+w)):=by
 constructor
 · intro ⟨k,h1,h2,h3⟩
   rcases Nat.lt_or_ge k w with h | h
   · exact .inl ⟨k,h,h2,h3⟩
   · refine .inr ⟨fun m hm=>h2 m (by omega),k - w,by omega,fun m hm=>?_,?_⟩
     · have:=h2 (w+m) (by omega)
       rwa [←Nat.add_assoc,←Nat.add_assoc] at this
     · rwa [show i+w+(k - w)=i+k by omega,show j+w+(k - w)=j+k by omega]
 · rintro (⟨k,h1,h2,h3⟩|⟨h0,k,h1,h2,h3⟩)
   · exact ⟨k,by omega,h2,h3⟩
   · refine ⟨w+k,by omega,fun m hm=>?_,by rwa [←Nat.add_assoc,←Nat.add_assoc]⟩
     rcases Nat.lt_or_ge m w with h | h
     · exact h0 m h
     · have:=h2 (m - w) (by omega)
       rwa [show i+w+(m - w)=i+m by omega,show j+w+(m - w)=j+m by omega] at this
def RankOk (a r:Nat→Int) (w:Nat):Prop:=∀i j,r i < r j↔ltW a w i j
theorem RankOk.eq {r:Nat→Int} {w:Nat} (h:RankOk a r w) (i j:Nat):r i=r j↔eqW a w i j:=by
 constructor
 · intro e
   rcases ltW_tri (a:=a) w i j with h1 | h1 | h1
   · have:=(h i j).2 h1
     omega
   · exact h1
   · have:=(h j i).2 h1
     omega
 · intro e
   have h1:¬(r i < r j):=fun x=>((h i j).1 x).not_eq e
   have h2:¬(r j < r i):=fun x=>((h j i).1 x).not_eq e.symm
   omega
def ordV (r:Nat→Int) (w i j:Nat):Int:=if r i≠r j then r i - r j else r (i+w) - r (j+w)
theorem ordV_lt {r:Nat→Int} {w:Nat} (h:RankOk a r w) (i j:Nat):ordV r w i j < 0↔ltW a (w+w) i j:=by
 unfold ordV
 rw [ltW_double]
 by_cases e:r i=r j
 · rw [if_neg (by simpa using e)]
   have h1:¬ltW a w i j:=fun x=>by have:=(h i j).2 x;omega
   have h2:=(h.eq i j).1 e
   have h3:=h (i+w) (j+w)
   constructor
   · intro h4
     exact .inr ⟨h2,h3.1 (by omega)⟩
   · rintro (h4 |⟨_,h4⟩)
     · exact absurd h4 h1
     · have:=h3.2 h4
       omega
 · rw [if_pos e]
   have h3:=h i j
   constructor
   · intro h4
     exact .inl (h3.1 (by omega))
   · rintro (h4 |⟨h4,_⟩)
     · have:=h3.2 h4
       omega
     · exact absurd ((h.eq i j).2 h4) e
theorem ordV_eq {r:Nat→Int} {w:Nat} (h:RankOk a r w) (i j:Nat):ordV r w i j=0↔eqW a (w+w) i j:=by
 unfold ordV
 rw [eqW_double]
 by_cases e:r i=r j
 · rw [if_neg (by simpa using e)]
   constructor
   · intro h4
     exact ⟨(h.eq i j).1 e,(h.eq _ _).1 (by omega)⟩
   · intro ⟨_,h4⟩
     have:=(h.eq _ _).2 h4
     omega
 · rw [if_pos e]
   constructor
   · intro h4
     exact absurd (show r i=r j by omega) e
   · intro ⟨h4,_⟩
     exact absurd ((h.eq i j).2 h4) e
def cN (o:Nat→Nat→Int) (f:Nat→Nat):Nat→Nat
 | 0=>0
 | i+1=>cN o f i+(if o (f i) (f (i+1))≠0 then 1 else 0)
theorem cN_step (o:Nat→Nat→Int) (f:Nat→Nat) (i:Nat):cN o f i≤cN o f (i+1)∧cN o f (i+1)≤cN o f i+1:=by
 show cN o f i≤cN o f i+_∧cN o f i+_≤cN o f i+1
 split <;> omega
theorem cN_le (o:Nat→Nat→Int) (f:Nat→Nat) (i d:Nat):cN o f i≤cN o f (i+d)∧cN o f (i+d)≤cN o f i+d:=by
 induction d with
 | zero=>exact ⟨Nat.le_refl _,Nat.le_refl _⟩
 | succ d ih=>
   have:=cN_step o f (i+d)
   rw [←Nat.add_assoc]
   omega
theorem cN_rank {o:Nat→Nat→Int} {f:Nat→Nat} {w n:Nat} (ho:∀i j,o i j=0↔eqW a w i j) (hs:∀i,i+1 < n→¬ltW a w (f (i+1)) (f i)) (i d:Nat) (hn:i+d < n):
 (cN o f i < cN o f (i+d)↔ltW a w (f i) (f (i+d)))∧¬ltW a w (f (i+d)) (f i):=by
 induction d with
 | zero=>exact ⟨⟨fun h=>absurd h (by simp),fun h=>h.irrefl.elim⟩,fun h=>h.irrefl⟩
 | succ d ih=>
   obtain ⟨h1,h2⟩:=ih (by omega)
   have h3:=hs (i+d) (by omega)
   have hm:=cN_le o f i d
   have he:cN o f (i+(d+1))=cN o f (i+d)+(if o (f (i+d)) (f (i+d+1))≠0 then 1 else 0):=rfl
   rw [show i+(d+1)=i+d+1 from rfl] at he⊢
   have h4:¬ltW a w (f (i+d+1)) (f i):=fun h=>h3 (h.le_right h2)
   refine ⟨?_,h4⟩
   by_cases hz:o (f (i+d)) (f (i+d+1))=0
   · have hq:=(ho _ _).1 hz
     rw [he,if_neg (by simpa using hz),Nat.add_zero,h1]
     exact ⟨fun h=>h.eq_right hq,fun h=>h.eq_right hq.symm⟩
   · rw [he,if_pos hz]
     refine ⟨fun _=>?_,fun _=>by omega⟩
     have h5:ltW a w (f (i+d)) (f (i+d+1)):=by
        rcases ltW_tri (a:=a) w (f (i+d)) (f (i+d+1)) with h | h | h
        · exact h
        · exact absurd ((ho _ _).2 h) hz
        · exact absurd h h3
     rcases ltW_tri (a:=a) w (f i) (f (i+d)) with h | h | h
     · exact h.trans h5
     · exact ltW.eq_left h h5
     · exact absurd h h2
end
theorem not_eqW {l:List Nat} {w i j:Nat} (hw:l.length≤w) (hi:i < l.length) (hj:j < l.length) (hij:i≠j):¬eqW (aN l) w i j:=by
 intro h
 rcases Nat.lt_or_ge i j with e | e
 · have h1:=h (l.length - j) (by omega)
   rw [aN_ge (show l.length≤j+(l.length - j) by omega)] at h1
   have:=aN_nonneg (l:=l) (p:=i+(l.length - j)) (by omega)
   omega
 · have h1:=h (l.length - i) (by omega)
   rw [aN_ge (show l.length≤i+(l.length - i) by omega)] at h1
   have:=aN_nonneg (l:=l) (p:=j+(l.length - i)) (by omega)
   omega
theorem rank_next {l R:List Nat} {o:Nat→Nat→Int} {f:Nat→Nat} {w:Nat} (hw:0 < w) (ho:∀i j,o i j=0↔eqW (aN l) w i j) (hs:∀i,i+1 < l.length→¬ltW (aN l) w (f (i+1)) (f i))
 (hlen:R.length=l.length) (hR:∀i,i < l.length→R[f i]?=some (cN o f i)) (hsur:∀p,p < l.length→∃i,i < l.length∧f i=p):RankOk (aN l) (aN R) w:=by
 have main:∀i j,i < l.length→j < l.length→(aN R (f i) < aN R (f j)↔ltW (aN l) w (f i) (f j)):=by
  intro i j hi hj
  rw [aN_some (hR i hi),aN_some (hR j hj)]
  rcases Nat.lt_or_ge i j with e | e
  · have:=(cN_rank ho hs i (j - i) (by omega)).1
    rw [show i+(j - i)=j by omega] at this
    rw [←this]
    omega
  · have h1:=cN_rank ho hs j (i - j) (by omega)
    rw [show j+(i - j)=i by omega] at h1
    have h2:=(cN_le o f j (i - j)).1
    rw [show j+(i - j)=i by omega] at h2
    exact ⟨fun h=>absurd h (by omega),fun h=>absurd h h1.2⟩
 intro p q
 rcases Nat.lt_or_ge p l.length with hp | hp
 · obtain ⟨i,hi,rfl⟩:=hsur p hp
   rcases Nat.lt_or_ge q l.length with hq | hq
   · obtain ⟨j,hj,rfl⟩:=hsur q hq
     exact main i j hi hj
   · have h1:=aN_nonneg (l:=R) (p:=f i) (by rw [hlen];exact hp)
     have h2:=aN_ge (l:=R) (p:=q) (by rw [hlen];exact hq)
     refine ⟨fun h=>absurd h (by omega),fun ⟨k,k1,k2,k3⟩=>?_⟩
     exfalso
     have h3:=aN_nonneg (l:=l) (p:=f i) hp
     rcases k with _ | k
     · rw [Nat.add_zero,Nat.add_zero,aN_ge hq] at k3
       omega
     · have:=k2 0 (by omega)
       rw [Nat.add_zero,Nat.add_zero,aN_ge hq] at this
       omega
 · have h2:=aN_ge (l:=R) (p:=p) (by rw [hlen];exact hp)
   rcases Nat.lt_or_ge q l.length with hq | hq
   · have h1:=aN_nonneg (l:=R) (p:=q) (by rw [hlen];exact hq)
     refine ⟨fun _=>⟨0,hw,fun m hm=>absurd hm (by omega),?_⟩,fun _=>by omega⟩
     rw [Nat.add_zero,Nat.add_zero,aN_ge hp]
     have:=aN_nonneg (l:=l) (p:=q) hq
     omega
   · have h1:=aN_ge (l:=R) (p:=q) (by rw [hlen];exact hq)
     refine ⟨fun h=>absurd h (by omega),fun ⟨k,k1,k2,k3⟩=>?_⟩
     rw [aN_ge (by omega),aN_ge (by omega)] at k3
     exact absurd k3 (by omega)
theorem cN_all {a:Nat→Int} {o:Nat→Nat→Int} {f:Nat→Nat} {w n:Nat} (ho:∀i j,o i j=0↔eqW a w i j) (hs:∀i,i+1 < n→¬ltW a w (f (i+1)) (f i)) (hn:0 < n) (hl:cN o f (n - 1)=n - 1) (i j:Nat) (hij:i < j) (hj:j < n):ltW a w (f i) (f j):=by
 have h1:=cN_le o f 0 i
 have h2:=cN_le o f i (j - i)
 have h3:=cN_le o f j (n - 1 - j)
 have h0:cN o f 0=0:=rfl
 rw [Nat.zero_add] at h1
 rw [show i+(j - i)=j by omega] at h2
 rw [show j+(n - 1 - j)=n - 1 by omega] at h3
 have h4:=(cN_rank ho hs i (j - i) (by omega)).1
 rw [show i+(j - i)=j by omega] at h4
 exact h4.1 (by omega)
theorem cN_full {o:Nat→Nat→Int} {f:Nat→Nat} {n:Nat} (h:∀i,i+1 < n→o (f i) (f (i+1))≠0) (i:Nat) (hi:i < n):cN o f i=i:=by
 induction i with
 | zero=>rfl
 | succ i ih=>
   show cN o f i+_=_
   rw [if_pos (h i hi),ih (by omega)]
theorem rank_start (l:List Nat):RankOk (aN l) (aN l) 1:=by
 intro i j
 constructor
 · intro h
   exact ⟨0,by omega,fun m hm=>absurd hm (by omega),h⟩
 · rintro ⟨k,h1,_,h3⟩
   have:k=0:=by omega
   subst this
   exact h3
end Go.Proofs.YtipaccakmndkgaaGreat
namespace Go.Proofs.YtipaccakmndkgaaGreat
open Go.RowKit
set_option linter.unusedVariables false
set_option linter.unusedSimpArgs false
@[irreducible] def wcells (S:Nat→Value) (n v:Int):Array Value:=#[S 0,S 1,S 2,S 3,S 4,S 5,S 6,S 7,S 8,.int .i64 n,.int .i64 v]
theorem wcells_get (S:Nat→Value) (n v:Int):(wcells S n v)[0]?=some (S 0)∧(wcells S n v)[1]?=some (S 1)∧(wcells S n v)[2]?=some (S 2)∧(wcells S n v)[3]?=some (S 3)∧(wcells S n v)[4]?=some (S 4)∧(wcells S n v)[5]?=some (S 5)∧(wcells S n v)[6]?=some (S 6)∧(wcells S n v)[7]?=some (S 7)∧(wcells S n v)[8]?=some (S 8)∧(wcells S n v)[9]?=some (.int .i64 n)∧(wcells S n v)[10]?=some (.int .i64 v):=by
 unfold wcells
 exact ⟨rfl,rfl,rfl,rfl,rfl,rfl,rfl,rfl,rfl,rfl,rfl⟩
theorem wcells_visits (S:Nat→Value) (n v v':Int):(wcells S n v).setIfInBounds 10 (.int .i64 v')=wcells S n v':=by
 unfold wcells
 rfl
theorem wcells_at (S:Nat→Value) (n v:Int) (i:Nat) (hi:i < 9):(wcells S n v)[i]?=some (S i):=by
 obtain ⟨h0,h1,h2,h3,h4,h5,h6,h7,h8,_⟩:=wcells_get S n v
 rcases i with _ | _ | _ | _ | _ | _ | _ | _ | _ | i
 all_goals first | assumption | omega
theorem wcells_set (S:Nat→Value) (n v:Int) (i:Nat) (hi:i < 9) (u:Value):(wcells S n v).setIfInBounds i u=wcells (fun j=>if j=i then u else S j) n v:=by
 unfold wcells
 rcases i with _ | _ | _ | _ | _ | _ | _ | _ | _ | i
 all_goals first | rfl | omega
theorem Vis.waveC {w w':World} {g:Nat} {S:Nat→Value} {n v:Int} (h:Vis w w') (hb:Bk w g 81 (wcells S n v)):∃v',Bk w' g 81 (wcells S n v'):=by
 rcases h.wave hb with h1 |⟨v',h1⟩
 · exact ⟨v,h1⟩
 · rw [wcells_visits] at h1
   exact ⟨v',h1⟩
set_option maxRecDepth 100000 in
theorem Rank1_any (gt gk gb gn:Nat) (lv p:Int) (x:Value) (bs:List Bool) (k:Nat) (b:Bool) (w:World) (ht:TreeAt w gt bs) (hk:Bk w gk 3 #[.int .i64 (k:Int)]) (hb:Bk w gb 4 #[.bool b]) (hn:Bk w gn 3 #[x]) (hkl:k≤bs.length):
 Calls Tryz.prog 92 #[.agg #[.pointer (some ⟨gt,0,none⟩),.int .i64 lv,.int .i64 p],.pointer (some ⟨gk,0,none⟩),.pointer (some ⟨gb,0,none⟩),.pointer (some ⟨gn,0,none⟩)] w fun e w'=>e=.returned (.tuple #[])∧
  ∃w1,VisK (fun b=>b=gt) w w1∧Bk w1 gn 3 #[x]∧w'=w1.setCell ⟨gn,0,none⟩ (.int .i64 (((bs.take k).count b:Nat):Int)):=by
 have c1:w.cell? ⟨gk,0,none⟩=some (.int .i64 (k:Int)):=(hk.cell 0).trans rfl
 have c2:w.cell? ⟨gb,0,none⟩=some (.bool b):=(hb.cell 0).trans rfl
 have l1:=hk.lt
 have l2:=hb.lt
 have l3:=hn.lt
 have Ht:=Lib.hid ht
 have Hn:=Lib.hid hn
 clear ht hk hb hn
 go_enter Tryz.func92,Tryz.ntmps92
 go_wp2_with fail
 refine (TreeRank_any gt bs k b _ (Ht.out.below ((Below.refl _ _).alloc (Nat.le_refl _) _)) hkl).mono ?_
 rintro e w1 ⟨rfl,hv⟩
 have hv0:VisK (fun b=>b=gt) w w1:=(VisK.of_below ((Below.refl _ _).alloc (Nat.le_refl _) _)).trans hv
 have hn1:=hv0.1.bk Hn.out (by decide) (by decide)
 have c3:w1.cell? ⟨gn,0,none⟩=some x:=(hn1.cell 0).trans rfl
 have f3:=hn1.frozen 0
 have HV:=Lib.hid hv0
 have Hn1:=Lib.hid hn1
 clear hv hv0 hn1
 go_wp2_with fail
 go_end0
 exact ⟨rfl,w1,HV.out,Hn1.out,rfl⟩
theorem Vis.of_wave {w w':World} {gv:Nat} {S:Nat→Value} {n v v':Int} (k:Keep (fun b=>b=gv) w w') (h:Bk w gv 81 (wcells S n v)) (h':Bk w' gv 81 (wcells S n v')):Vis w w':=by
 refine ⟨k.os,k.tape,k.output,k.size,fun b hb _=>?_⟩
 by_cases e:b=gv
 · subst e
   exact .inr (.inr ⟨_,v',h,by rw [wcells_visits];exact h'⟩)
 · exact .inl (k.block b hb e)
set_option maxRecDepth 100000 in
set_option maxHeartbeats 1000000 in
theorem Look1_any (gv gt gk gb gn:Nat) (S:Nat→Value) (n v lv p:Int) (x:Value) (bs:List Bool) (k:Nat) (b:Bool) (w:World) (hw:Bk w gv 81 (wcells S n v)) (ht:TreeAt w gt bs) (hk:Bk w gk 3 #[.int .i64 (k:Int)]) (hb:Bk w gb 4 #[.bool b]) (hn:Bk w gn 3 #[x]) (hkl:k≤bs.length):
 Calls Tryz.prog 53 #[.pointer (some ⟨gv,0,none⟩),.agg #[.pointer (some ⟨gt,0,none⟩),.int .i64 lv,.int .i64 p],.func (.func 92) #[] #[.pointer (some ⟨gk,0,none⟩),.pointer (some ⟨gb,0,none⟩),.pointer (some ⟨gn,0,none⟩)]] w fun e w'=>e=.returned (.tuple #[])∧
  VisF (fun b=>b=gn) w w'∧Keep (fun b=>b=gv∨b=gt∨b=gn) w w'∧Bk w' gn 3 #[.int .i64 (((bs.take k).count b:Nat):Int)]:=by
 obtain ⟨o,ho⟩:∃o,Obj.cells #[.pointer (some ⟨gt,0,none⟩),.int .i64 lv,.int .i64 p] 84=o:=⟨_,rfl⟩
 have hal:=(Below.refl w.heap.size w).alloc (Nat.le_refl _) o
 have hs1:=Bk.new w 84 #[.pointer (some ⟨gt,0,none⟩),.int .i64 lv,.int .i64 p]
 rw [ho] at hs1
 have l1:=hk.lt
 have l2:=hb.lt
 have l3:=hn.lt
 have l4:=hw.lt
 have n1:=Bk.ne hn hw (by decide)
 have Ht:=Lib.hid ht
 have Hn:=Lib.hid hn
 have Hk:=Lib.hid hk
 have Hb:=Lib.hid hb
 have Hw:=Lib.hid hw
 have HA:=Lib.hid hal
 have Hs:=Lib.hid hs1
 have Ho:=Lib.hid ho
 clear ht hk hb hn hw hal hs1 ho
 go_enter Tryz.func53,Tryz.ntmps53
 go_wp2_with fail
 rw [Ho.out]
 refine (Rank1_any gt gk gb gn lv p x bs k b _ (Ht.out.below HA.out) (Hk.out.alloc _) (Hb.out.alloc _) (Hn.out.alloc _) hkl).mono ?_
 rintro e w2 ⟨rfl,w1,hv1,hn1,rfl⟩
 obtain ⟨v1,hw1⟩:=((Vis.of_below HA.out).trans hv1.1).waveC Hw.out
 have hw2:=hw1.far (p:=⟨gn,0,none⟩) (fun h=>n1 h.symm) (.int .i64 (((bs.take k).count b:Nat):Int))
 have ht1:=Ht.out.vis ((Vis.of_below HA.out).trans hv1.1)
 have ht2:TreeAt (w1.setCell ⟨gn,0,none⟩ (.int .i64 (((bs.take k).count b:Nat):Int))) gt bs:=ht1.same fun c t cs hin h=>h.far (fun e=>by
  have e':c=gn:=e
  subst e'
  rw [←(bk_inj hn1 h).1] at hin
  exact absurd hin (by decide)) _
 obtain ⟨vt,hvt⟩:=ht2.visits
 have hs2:=(hv1.1.bk Hs.out (by decide) (by decide)).far (p:=⟨gn,0,none⟩) (fun h=>absurd (show w.heap.size=gn from h) (by omega)) (.int .i64 (((bs.take k).count b:Nat):Int))
 have hnn:=hn1.set 0 (.int .i64 (((bs.take k).count b:Nat):Int))
 have hfin:VisF (fun b=>b=gn) w (w1.setCell ⟨gn,0,none⟩ (.int .i64 (((bs.take k).count b:Nat):Int))):=VisF.put (F:=fun b=>b=gn) (VisF.of_vis ((Vis.of_below HA.out).trans hv1.1)) (p:=⟨gn,0,none⟩) (.inl rfl) _
 have hkp:Keep (fun b=>b=gv∨b=gt∨b=gn) w (w1.setCell ⟨gn,0,none⟩ (.int .i64 (((bs.take k).count b:Nat):Int))):=Keep.setCell (F:=fun b=>b=gv∨b=gt∨b=gn) ((Keep.of_below HA.out).trans (hv1.2.mono fun b _ e=>.inr (.inl e))) (p:=⟨gn,0,none⟩) (.inl (.inr (.inr rfl))) _
 obtain ⟨W,hW⟩:∃W,w1.setCell ⟨gn,0,none⟩ (.int .i64 (((bs.take k).count b:Nat):Int))=W:=⟨_,rfl⟩
 rw [hW] at hw2 ht2 hvt hs2 hnn hfin hkp⊢
 have s0:W.cell? ⟨w.heap.size,0,none⟩=some (.pointer (some ⟨gt,0,none⟩)):=(hs2.cell 0).trans rfl
 have Hw2:=Lib.hid hw2
 have Hs2:=Lib.hid hs2
 have HN:=Lib.hid hnn
 have HF:=Lib.hid hfin
 have HK:=Lib.hid hkp
 have Ht2:=Lib.hid ht2
 have Hvt:=Lib.hid hvt
 have htlt:=ht2.lt
 have hslt:=hs2.lt
 have hgs:=Bk.ne hw2 hs2 (by decide)
 have hgn:=Bk.ne hw2 hnn (by decide)
 have hgvt:gt≠gv:=by
  rintro rfl
  obtain ⟨ga,v,⟨_,_,h2⟩|⟨_,_,_,_,_,h3⟩⟩:=Ht2.out
  · exact absurd (bk_inj h2 Hw2.out).1 (by decide)
  · exact absurd (bk_inj h3.tree Hw2.out).1 (by decide)
 clear hw2 hs2 hnn hfin hkp ht2 hvt hW hw1 ht1 hn1 hv1 HA Ht Hn Hk Hb Hw Hs s0
 go_wp2_with fail
 refine wp_region_any (by kernel_rfl) ?_
 refine wpAny_keep [9,10,11,12,13,14,15,16,17,18] (fun b=>b=gv) 10 [3,10] (fun w2=>Bk w2 gv 81 (wcells S n v1)) (fun _ w2=>Bk w2 gv 81 (wcells S n (IntKind.i64.wrap (v1+vt)))) [is (.pointer (some ⟨gv,0,none⟩)),is (.pointer (some ⟨gv,0,none⟩)),is (.pointer (some ⟨gv,10,none⟩)),is (.int .i64 v1),is (.pointer (some ⟨w.heap.size,0,none⟩)),is (.pointer (some ⟨gt,0,none⟩)),is (.int .i64 vt),is (.int .i64 (IntKind.i64.wrap (v1+vt))),is (.pointer (some ⟨gv,0,none⟩)),is (.pointer (some ⟨gv,10,none⟩)),anyV] _ _ rfl (by kernel_rfl) (by kernel_rfl) (Hw2.out) (fun w2 w3 h _ hg=>Bk.below h hg h.lt) (fun _ _ _ h k=>Bk.below h k h.lt) (by repeat' (first | exact stbk_is _ _ | exact stbk_any _ |(refine List.forall_mem_cons.2 ⟨?_,?_⟩)|(intro p hp;cases hp))) ?_ ?_
 · refine steps_of ?_
   refine steps_cons (step_on3 rfl rfl fun ev _ _ _ _ _ hold _ _ _ _ hK=>?_) ?_
   · have e0:ev (.tmp 0)=.pointer (some ⟨gv,0,none⟩):=hold 0 (by kernel_rfl)
     go_simp
     exact hK _ _ (kstep_grow (Below.refl _ _)) rfl
   refine steps_cons (step_on3 rfl rfl fun _ _ _ _ _ _ _ hval _ _ _ hK=>?_) ?_
   · have e9:_=_:=hval 0 9 (by kernel_rfl) rfl
     go_simp
     exact hK _ _ (kstep_grow (Below.refl _ _)) rfl
   refine steps_cons (step_on3 rfl rfl fun _ _ _ _ _ _ _ hval _ _ _ hK=>?_) ?_
   · have e10:_=_:=hval 1 10 (by kernel_rfl) rfl
     go_simp
     exact hK _ _ (kstep_grow (Below.refl _ _)) rfl
   refine steps_cons (step_on3 rfl rfl fun _ w5 _ hU _ _ _ hval _ _ _ hK=>?_) ?_
   · have hpre:=hU rfl
     have e11:_=_:=hval 2 11 (by kernel_rfl) rfl
     have c12:w5.cell? ⟨gv,10,none⟩=some (.int .i64 v1):=(hpre.cell 10).trans (wcells_get _ _ _).2.2.2.2.2.2.2.2.2.2
     go_simp
     exact hK _ _ (kstep_grow (Below.refl _ _)) rfl
   refine steps_cons (step_on3 rfl rfl fun ev _ _ _ _ _ hold _ _ _ _ hK=>?_) ?_
   · have e4:ev (.tmp 4)=.pointer (some ⟨w.heap.size,0,none⟩):=hold 4 (by kernel_rfl)
     go_simp
     exact hK _ _ (kstep_grow (Below.refl _ _)) rfl
   refine steps_cons (step_on3 rfl rfl fun _ w5 hS _ _ _ _ hval _ _ _ hK=>?_) ?_
   · replace hS:Keep (fun b=>b=gv) W w5:=⟨hS.os,hS.tape,hS.output,hS.size,hS.block⟩
     have e13:_=_:=hval 4 13 (by kernel_rfl) rfl
     have c14:w5.cell? ⟨w.heap.size,0,none⟩=some (.pointer (some ⟨gt,0,none⟩)):=((hS.bk Hs2.out (fun h=>hgs (show w.heap.size=gv from h).symm)).cell 0).trans rfl
     go_simp
     exact hK _ _ (kstep_grow (Below.refl _ _)) rfl
   refine steps_cons (step_on3 rfl rfl fun _ w5 hS _ _ _ _ hval _ _ _ hK=>?_) ?_
   · replace hS:Keep (fun b=>b=gv) W w5:=⟨hS.os,hS.tape,hS.output,hS.size,hS.block⟩
     have e14:_=_:=hval 5 14 (by kernel_rfl) rfl
     go_simp
     refine (TreeVisits_any gt vt w5 ((hS.cell htlt hgvt).trans Hvt.out)).mono ?_
     rintro e w8 ⟨rfl,hb8⟩
     exact hK _ _ (kstep_grow hb8) rfl
   refine steps_cons (step_on3 rfl rfl fun _ _ _ _ _ _ _ hval _ _ _ hK=>?_) ?_
   · have e12:_=_:=hval 3 12 (by kernel_rfl) rfl
     have e15:_=_:=hval 6 15 (by kernel_rfl) rfl
     go_simp
     exact hK _ _ (kstep_grow (Below.refl _ _)) rfl
   refine steps_cons (step_on3 rfl rfl fun _ _ _ _ _ _ _ hval _ _ _ hK=>?_) ?_
   · have e9:_=_:=hval 0 9 (by kernel_rfl) rfl
     go_simp
     exact hK _ _ (kstep_grow (Below.refl _ _)) rfl
   refine steps_cons (step_on3 rfl rfl fun _ _ _ _ _ _ _ hval _ _ _ hK=>?_) ?_
   · have e17:_=_:=hval 8 17 (by kernel_rfl) rfl
     go_simp
     exact hK _ _ (kstep_grow (Below.refl _ _)) rfl
   refine steps_cons (step_on3 rfl rfl fun _ w5 _ hU _ _ _ hval _ _ _ hK=>?_) ?_
   · have hpre:=hU rfl
     have e18:_=_:=hval 9 18 (by kernel_rfl) rfl
     have e16:_=_:=hval 7 16 (by kernel_rfl) rfl
     have c18:w5.cell? ⟨gv,10,none⟩=some (.int .i64 v1):=(hpre.cell 10).trans (wcells_get _ _ _).2.2.2.2.2.2.2.2.2.2
     have f18:=hpre.frozen 10
     go_simp
     refine hK (.bool true) _ (kstep_keep (Keep.setCell (F:=fun b=>b=gv) (Keep.refl _ _) (p:=⟨gv,10,none⟩) (.inl rfl) _)) ?_
     rw [←wcells_visits S n v1]
     exact hpre.set 10 _
   exact steps_nil
 · intro ev w6 hS hval hall
   replace hS:Keep (fun b=>b=gv) W w6:=⟨hS.os,hS.tape,hS.output,hS.size,hS.block⟩
   obtain ⟨vJ,pJ⟩:∃vJ0,(fun _ w2=>Bk w2 gv 81 (wcells S n (IntKind.i64.wrap (v1+vt)))) vJ0 w6:=hall 10 (by decide)
   simp only [putsOf,List.foldl_cons,List.foldl_nil,Act.put,List.setIfInBounds_toArray,List.set_cons_zero,List.set_cons_succ]
   clear hval hall
   have hv6:=Vis.of_wave hS Hw2.out pJ
   have h1:=VisF.trans HF.out (VisF.of_vis hv6)
   have h2:=HK.out.trans (hS.mono fun b _ e=>.inl e)
   have h3:=hS.bk HN.out (fun e=>hgn (show gn=gv from e).symm)
   have H1:=Lib.hid h1
   have H2:=Lib.hid h2
   have H3:=Lib.hid h3
   clear hv6 h1 h2 h3 pJ hS
   go_wp2_with fail
   go_end0
   exact ⟨rfl,H1.out,H2.out,H3.out⟩
set_option maxRecDepth 100000 in
set_option maxHeartbeats 1000000 in
theorem WRank1_any (gv gt:Nat) (S:Nat→Value) (n v lv p:Int) (bs:List Bool) (k:Nat) (b:Bool) (w:World) (hw:Bk w gv 81 (wcells S n v)) (ht:TreeAt w gt bs) (hkl:k≤bs.length):
 Calls Tryz.prog 56 #[.pointer (some ⟨gv,0,none⟩),.agg #[.pointer (some ⟨gt,0,none⟩),.int .i64 lv,.int .i64 p],.int .i64 (k:Int),.bool b] w fun e w'=>e=.returned (.int .i64 (((bs.take k).count b:Nat):Int))∧VisK (fun b=>b=gv∨b=gt) w w':=by
 have hmf:∀(fn:Fn) (first cap:Array Value) (w:World),(Instr.makeFunc fn first cap).run Tryz.prog w=.ok (.func fn first cap) w:=fun _ _ _ _=>rfl
 obtain ⟨W,hW⟩:∃W,(((w.alloc (.cells #[.pointer (some ⟨gt,0,none⟩),.int .i64 lv,.int .i64 p] 84)).alloc (.cells #[.int .i64 (k:Int)] 3)).alloc (.cells #[.bool b] 4)).alloc (.cells #[.int .i64 0] 3)=W:=⟨_,rfl⟩
 have hB:Below w.heap.size w W:=by
  rw [←hW]
  exact ((((Below.refl _ _).alloc (Nat.le_refl _) _).alloc (by simp) _).alloc (by simp;omega) _).alloc (by simp;omega) _
 have h1:Bk W (w.heap.size+1) 3 #[.int .i64 (k:Int)]:=by
  rw [←hW]
  have h:=Bk.new (w.alloc (.cells #[.pointer (some ⟨gt,0,none⟩),.int .i64 lv,.int .i64 p] 84)) 3 #[.int .i64 (k:Int)]
  rw [show (w.alloc (.cells #[.pointer (some ⟨gt,0,none⟩),.int .i64 lv,.int .i64 p] 84)).heap.size=w.heap.size+1 from by simp] at h
  exact (h.alloc _).alloc _
 have h2:Bk W (w.heap.size+1+1) 4 #[.bool b]:=by
  rw [←hW]
  have h:=Bk.new ((w.alloc (.cells #[.pointer (some ⟨gt,0,none⟩),.int .i64 lv,.int .i64 p] 84)).alloc (.cells #[.int .i64 (k:Int)] 3)) 4 #[.bool b]
  rw [show ((w.alloc (.cells #[.pointer (some ⟨gt,0,none⟩),.int .i64 lv,.int .i64 p] 84)).alloc (.cells #[.int .i64 (k:Int)] 3)).heap.size=w.heap.size+1+1 from by simp] at h
  exact h.alloc _
 have h3:Bk W (w.heap.size+1+1+1) 3 #[.int .i64 0]:=by
  rw [←hW]
  have h:=Bk.new (((w.alloc (.cells #[.pointer (some ⟨gt,0,none⟩),.int .i64 lv,.int .i64 p] 84)).alloc (.cells #[.int .i64 (k:Int)] 3)).alloc (.cells #[.bool b] 4)) 3 #[.int .i64 0]
  rw [show (((w.alloc (.cells #[.pointer (some ⟨gt,0,none⟩),.int .i64 lv,.int .i64 p] 84)).alloc (.cells #[.int .i64 (k:Int)] 3)).alloc (.cells #[.bool b] 4)).heap.size=w.heap.size+1+1+1 from by simp] at h
  exact h
 have hw1:=hw.below hB hw.lt
 have ht1:=ht.below hB
 have Hw1:=Lib.hid hw1
 have Ht1:=Lib.hid ht1
 have H1:=Lib.hid h1
 have H2:=Lib.hid h2
 have H3:=Lib.hid h3
 have HW:=Lib.hid hW
 have HB:=Lib.hid hB
 clear hw ht hw1 ht1 h1 h2 h3 hW hB
 go_enter Tryz.func56,Tryz.ntmps56
 go_wp2_with fail
 rw [HW.out]
 refine (Look1_any gv gt _ _ _ S n v lv p _ bs k b W Hw1.out Ht1.out H1.out H2.out H3.out hkl).mono ?_
 rintro e w1 ⟨rfl,hvf,hkp,hn⟩
 have hfin:Vis w w1:=VisF.to_vis (VisF.trans (VisF.of_vis (Vis.of_below HB.out)) hvf) (fun b hb e=>by omega)
 have hkf:Keep (fun b=>b=gv∨b=gt) w w1:=(Keep.of_below HB.out).trans' hkp (fun b hb e=>by
  rcases e with e | e | e
  · exact .inl e
  · exact .inr e
  · omega)
 have c9:w1.cell? ⟨w.heap.size+1+1+1,0,none⟩=some (.int .i64 (((bs.take k).count b:Nat):Int)):=(hn.cell 0).trans rfl
 have HF:=Lib.hid hfin
 have HK:=Lib.hid hkf
 clear hvf hkp hn hfin hkf
 go_wp2_with fail
 go_ret
 exact ⟨rfl,HF.out,HK.out⟩
end Go.Proofs.YtipaccakmndkgaaGreat
