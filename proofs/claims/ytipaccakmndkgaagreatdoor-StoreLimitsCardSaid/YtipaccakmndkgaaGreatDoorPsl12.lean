/- Plain laws of sorting suffixes by doubling. No conditions. The walk of the tally's Add of -1. Conditions: the symbol stands there. The walk of the tally's Which. Conditions: a row that is there; at most 1000 symbols. Plain laws of the wave: paths, bits, ranks; what a wave is (WaveAt). No conditions. The walks of the two closures of sorted.Rows. Conditions: at most 1000 symbols, numbers up to 1000. -/
import Derived.Test.YtipaccakmndkgaaGreatDoorPsl10
import Derived.Laws.Rows
import Derived.Test.YtipaccakmndkgaaGreatDoorPsl11
import Derived.Test.YtipaccakmndkgaaGreatDoorPsl5
import Derived.BigQuiet
set_option linter.unusedVariables false
set_option linter.unusedSimpArgs false
set_option maxRecDepth 100000
set_option maxHeartbeats 1000000
namespace Go.Proofs.YtipaccakmndkgaaGreatDoor
def aN (l:List Nat) (p:Nat):Int:=match l[p]? with
 | some x=>(x:Int)
 | none=>-1
theorem aN_lt {l:List Nat} {p:Nat} (h:p < l.length):aN l p=(l[p]:Int):=by
 unfold aN
 rw [List.getElem?_eq_getElem h]
theorem aN_some {l:List Nat} {p x:Nat} (h:l[p]?=some x):aN l p=(x:Int):=by
 unfold aN
 rw [h]
theorem aN_ge {l:List Nat} {p:Nat} (h:l.length≤p):aN l p=-1:=by
 unfold aN
 rw [List.getElem?_eq_none h]
theorem aN_nonneg {l:List Nat} {p:Nat} (h:p < l.length):0≤aN l p:=by
 rw [aN_lt h]
 omega
section
variable (a : Nat → Int)
def eqW (w i j:Nat):Prop:=∀m,m < w→a (i+m)=a (j+m)
def ltW (w i j:Nat):Prop:=∃k,k < w∧(∀m,m < k→a (i+m)=a (j+m))∧a (i+k) < a (j+k)
variable {a}
theorem eqW.symm {w i j:Nat} (h:eqW a w i j):eqW a w j i:=fun m hm=>(h m hm).symm
theorem eqW.trans {w i j k:Nat} (h:eqW a w i j) (h':eqW a w j k):eqW a w i k:=fun m hm=>(h m hm).trans (h' m hm)
theorem eqW.refl (w i:Nat):eqW a w i i:=fun _ _=>rfl
theorem ltW_tri (w i j:Nat):ltW a w i j∨eqW a w i j∨ltW a w j i:=by
 induction w with
 | zero=>exact .inr (.inl fun m hm=>absurd hm (by omega))
 | succ w ih=>
   rcases ih with ⟨k,h1,h2⟩| h |⟨k,h1,h2⟩
   · exact .inl ⟨k,by omega,h2⟩
   · rcases Int.lt_trichotomy (a (i+w)) (a (j+w)) with h1 | h1 | h1
     · exact .inl ⟨w,by omega,h,h1⟩
     · refine .inr (.inl fun m hm=>?_)
       rcases Nat.lt_or_ge m w with h2 | h2
       · exact h m h2
       · have:m=w:=by omega
         subst this
         exact h1
     · exact .inr (.inr ⟨w,by omega,h.symm,h1⟩)
   · exact .inr (.inr ⟨k,by omega,h2⟩)
theorem ltW.not_eq {w i j:Nat} (h:ltW a w i j):¬eqW a w i j:=by
 obtain ⟨k,h1,h2,h3⟩:=h
 intro he
 have:=he k h1
 omega
theorem ltW.trans {w i j k:Nat} (h:ltW a w i j) (h':ltW a w j k):ltW a w i k:=by
 obtain ⟨p,p1,p2,p3⟩:=h
 obtain ⟨q,q1,q2,q3⟩:=h'
 rcases Nat.lt_trichotomy p q with e | e | e
 · exact ⟨p,p1,fun m hm=>(p2 m hm).trans (q2 m (by omega)),by rw [←q2 p e];exact p3⟩
 · subst e
   exact ⟨p,p1,fun m hm=>(p2 m hm).trans (q2 m hm),Int.lt_trans p3 q3⟩
 · exact ⟨q,q1,fun m hm=>(p2 m (by omega)).trans (q2 m hm),by rw [p2 q e];exact q3⟩
theorem ltW.irrefl {w i:Nat} (h:ltW a w i i):False:=h.not_eq (eqW.refl _ _)
theorem ltW.asymm {w i j:Nat} (h:ltW a w i j) (h':ltW a w j i):False:=(h.trans h').irrefl
theorem ltW.eq_right {w i j k:Nat} (h:ltW a w i j) (h':eqW a w j k):ltW a w i k:=by
 obtain ⟨p,p1,p2,p3⟩:=h
 exact ⟨p,p1,fun m hm=>(p2 m hm).trans (h' m (by omega)),by rw [←h' p p1];exact p3⟩
theorem ltW.eq_left {w i j k:Nat} (h':eqW a w i j) (h:ltW a w j k):ltW a w i k:=by
 obtain ⟨p,p1,p2,p3⟩:=h
 exact ⟨p,p1,fun m hm=>(h' m (by omega)).trans (p2 m hm),by rw [h' p p1];exact p3⟩
theorem ltW.le_right {w i j k:Nat} (h:ltW a w i j) (h':¬ltW a w k j):ltW a w i k:=by
 rcases ltW_tri (a:=a) w j k with h1 | h1 | h1
 · exact h.trans h1
 · exact h.eq_right h1
 · exact absurd h1 h'
theorem eqW_double (w i j:Nat):eqW a (w+w) i j↔eqW a w i j∧eqW a w (i+w) (j+w):=by
 constructor
 · intro h
   refine ⟨fun m hm=>h m (by omega),fun m hm=>?_⟩
   have:=h (w+m) (by omega)
   rwa [←Nat.add_assoc,←Nat.add_assoc] at this
 · intro ⟨h1,h2⟩ m hm
   rcases Nat.lt_or_ge m w with h | h
   · exact h1 m h
   · have:=h2 (m - w) (by omega)
     rwa [show i+w+(m - w)=i+m by omega,show j+w+(m - w)=j+m by omega] at this
theorem ltW_double (w i j:Nat):ltW a (w+w) i j↔ltW a w i j∨(eqW a w i j∧ltW a w (i+w) (j+w)):=by
 constructor
 · intro ⟨k,h1,h2,h3⟩
   rcases Nat.lt_or_ge k w with h | h
   · exact .inl ⟨k,h,h2,h3⟩
   · refine .inr ⟨fun m hm=>h2 m (by omega),k - w,by omega,fun m hm=>?_,?_⟩
     · have:=h2 (w+m) (by omega)
       rwa [←Nat.add_assoc,←Nat.add_assoc] at this
     · rwa [show i+w+(k - w)=i+k by omega,show j+w+(k - w)=j+k by omega]
 · rintro (⟨k,h1,h2,h3⟩|⟨h0,k,h1,h2,h3⟩)
   · exact ⟨k,by omega,h2,h3⟩
   · refine ⟨w+k,by omega,fun m hm=>?_,by rwa [←Nat.add_assoc,←Nat.add_assoc]⟩
     rcases Nat.lt_or_ge m w with h | h
     · exact h0 m h
     · have:=h2 (m - w) (by omega)
       rwa [show i+w+(m - w)=i+m by omega,show j+w+(m - w)=j+m by omega] at this
def RankOk (a r:Nat→Int) (w:Nat):Prop:=∀i j,r i < r j↔ltW a w i j
theorem RankOk.eq {r:Nat→Int} {w:Nat} (h:RankOk a r w) (i j:Nat):r i=r j↔eqW a w i j:=by
 constructor
 · intro e
   rcases ltW_tri (a:=a) w i j with h1 | h1 | h1
   · have:=(h i j).2 h1
     omega
   · exact h1
   · have:=(h j i).2 h1
     omega
 · intro e
   have h1:¬(r i < r j):=fun x=>((h i j).1 x).not_eq e
   have h2:¬(r j < r i):=fun x=>((h j i).1 x).not_eq e.symm
   omega
def ordV (r:Nat→Int) (w i j:Nat):Int:=if r i≠r j then r i - r j else r (i+w) - r (j+w)
theorem ordV_lt {r:Nat→Int} {w:Nat} (h:RankOk a r w) (i j:Nat):ordV r w i j < 0↔ltW a (w+w) i j:=by
 unfold ordV
 rw [ltW_double]
 by_cases e:r i=r j
 · rw [if_neg (by simpa using e)]
   have h1:¬ltW a w i j:=fun x=>by have:=(h i j).2 x;omega
   have h2:=(h.eq i j).1 e
   have h3:=h (i+w) (j+w)
   constructor
   · intro h4
     exact .inr ⟨h2,h3.1 (by omega)⟩
   · rintro (h4 |⟨_,h4⟩)
     · exact absurd h4 h1
     · have:=h3.2 h4
       omega
 · rw [if_pos e]
   have h3:=h i j
   constructor
   · intro h4
     exact .inl (h3.1 (by omega))
   · rintro (h4 |⟨h4,_⟩)
     · have:=h3.2 h4
       omega
     · exact absurd ((h.eq i j).2 h4) e
theorem ordV_eq {r:Nat→Int} {w:Nat} (h:RankOk a r w) (i j:Nat):ordV r w i j=0↔eqW a (w+w) i j:=by
 unfold ordV
 rw [eqW_double]
 by_cases e:r i=r j
 · rw [if_neg (by simpa using e)]
   constructor
   · intro h4
     exact ⟨(h.eq i j).1 e,(h.eq _ _).1 (by omega)⟩
   · intro ⟨_,h4⟩
     have:=(h.eq _ _).2 h4
     omega
 · rw [if_pos e]
   constructor
   · intro h4
     exact absurd (show r i=r j by omega) e
   · intro ⟨h4,_⟩
     exact absurd ((h.eq i j).2 h4) e
def cN (o:Nat→Nat→Int) (f:Nat→Nat):Nat→Nat
 | 0=>0
 | i+1=>cN o f i+(if o (f i) (f (i+1))≠0 then 1 else 0)
theorem cN_step (o:Nat→Nat→Int) (f:Nat→Nat) (i:Nat):cN o f i≤cN o f (i+1)∧cN o f (i+1)≤cN o f i+1:=by
 show cN o f i≤cN o f i+_∧cN o f i+_≤cN o f i+1
 split <;> omega
theorem cN_le (o:Nat→Nat→Int) (f:Nat→Nat) (i d:Nat):cN o f i≤cN o f (i+d)∧cN o f (i+d)≤cN o f i+d:=by
 induction d with
 | zero=>exact ⟨Nat.le_refl _,Nat.le_refl _⟩
 | succ d ih=>
   have:=cN_step o f (i+d)
   rw [←Nat.add_assoc]
   omega
theorem cN_rank {o:Nat→Nat→Int} {f:Nat→Nat} {w n:Nat} (ho:∀i j,o i j=0↔eqW a w i j) (hs:∀i,i+1 < n→¬ltW a w (f (i+1)) (f i)) (i d:Nat) (hn:i+d < n):
 (cN o f i < cN o f (i+d)↔ltW a w (f i) (f (i+d)))∧¬ltW a w (f (i+d)) (f i):=by
 induction d with
 | zero=>exact ⟨⟨fun h=>absurd h (by simp),fun h=>h.irrefl.elim⟩,fun h=>h.irrefl⟩
 | succ d ih=>
   obtain ⟨h1,h2⟩:=ih (by omega)
   have h3:=hs (i+d) (by omega)
   have hm:=cN_le o f i d
   have he:cN o f (i+(d+1))=cN o f (i+d)+(if o (f (i+d)) (f (i+d+1))≠0 then 1 else 0):=rfl
   rw [show i+(d+1)=i+d+1 from rfl] at he⊢
   have h4:¬ltW a w (f (i+d+1)) (f i):=fun h=>h3 (h.le_right h2)
   refine ⟨?_,h4⟩
   by_cases hz:o (f (i+d)) (f (i+d+1))=0
   · have hq:=(ho _ _).1 hz
     rw [he,if_neg (by simpa using hz),Nat.add_zero,h1]
     exact ⟨fun h=>h.eq_right hq,fun h=>h.eq_right hq.symm⟩
   · rw [he,if_pos hz]
     refine ⟨fun _=>?_,fun _=>by omega⟩
     have h5:ltW a w (f (i+d)) (f (i+d+1)):=by
        rcases ltW_tri (a:=a) w (f (i+d)) (f (i+d+1)) with h | h | h
        · exact h
        · exact absurd ((ho _ _).2 h) hz
        · exact absurd h h3
     rcases ltW_tri (a:=a) w (f i) (f (i+d)) with h | h | h
     · exact h.trans h5
     · exact ltW.eq_left h h5
     · exact absurd h h2
end
theorem not_eqW {l:List Nat} {w i j:Nat} (hw:l.length≤w) (hi:i < l.length) (hj:j < l.length) (hij:i≠j):¬eqW (aN l) w i j:=by
 intro h
 rcases Nat.lt_or_ge i j with e | e
 · have h1:=h (l.length - j) (by omega)
   rw [aN_ge (show l.length≤j+(l.length - j) by omega)] at h1
   have:=aN_nonneg (l:=l) (p:=i+(l.length - j)) (by omega)
   omega
 · have h1:=h (l.length - i) (by omega)
   rw [aN_ge (show l.length≤i+(l.length - i) by omega)] at h1
   have:=aN_nonneg (l:=l) (p:=j+(l.length - i)) (by omega)
   omega
theorem rank_next {l R:List Nat} {o:Nat→Nat→Int} {f:Nat→Nat} {w:Nat} (hw:0 < w) (ho:∀i j,o i j=0↔eqW (aN l) w i j) (hs:∀i,i+1 < l.length→¬ltW (aN l) w (f (i+1)) (f i))
 (hlen:R.length=l.length) (hR:∀i,i < l.length→R[f i]?=some (cN o f i)) (hsur:∀p,p < l.length→∃i,i < l.length∧f i=p):RankOk (aN l) (aN R) w:=by
 have main:∀i j,i < l.length→j < l.length→(aN R (f i) < aN R (f j)↔ltW (aN l) w (f i) (f j)):=by
  intro i j hi hj
  rw [aN_some (hR i hi),aN_some (hR j hj)]
  rcases Nat.lt_or_ge i j with e | e
  · have:=(cN_rank ho hs i (j - i) (by omega)).1
    rw [show i+(j - i)=j by omega] at this
    rw [←this]
    omega
  · have h1:=cN_rank ho hs j (i - j) (by omega)
    rw [show j+(i - j)=i by omega] at h1
    have h2:=(cN_le o f j (i - j)).1
    rw [show j+(i - j)=i by omega] at h2
    exact ⟨fun h=>absurd h (by omega),fun h=>absurd h h1.2⟩
 intro p q
 rcases Nat.lt_or_ge p l.length with hp | hp
 · obtain ⟨i,hi,rfl⟩:=hsur p hp
   rcases Nat.lt_or_ge q l.length with hq | hq
   · obtain ⟨j,hj,rfl⟩:=hsur q hq
     exact main i j hi hj
   · have h1:=aN_nonneg (l:=R) (p:=f i) (by rw [hlen];exact hp)
     have h2:=aN_ge (l:=R) (p:=q) (by rw [hlen];exact hq)
     refine ⟨fun h=>absurd h (by omega),fun ⟨k,k1,k2,k3⟩=>?_⟩
     exfalso
     have h3:=aN_nonneg (l:=l) (p:=f i) hp
     rcases k with _ | k
     · rw [Nat.add_zero,Nat.add_zero,aN_ge hq] at k3
       omega
     · have:=k2 0 (by omega)
       rw [Nat.add_zero,Nat.add_zero,aN_ge hq] at this
       omega
 · have h2:=aN_ge (l:=R) (p:=p) (by rw [hlen];exact hp)
   rcases Nat.lt_or_ge q l.length with hq | hq
   · have h1:=aN_nonneg (l:=R) (p:=q) (by rw [hlen];exact hq)
     refine ⟨fun _=>⟨0,hw,fun m hm=>absurd hm (by omega),?_⟩,fun _=>by omega⟩
     rw [Nat.add_zero,Nat.add_zero,aN_ge hp]
     have:=aN_nonneg (l:=l) (p:=q) hq
     omega
   · have h1:=aN_ge (l:=R) (p:=q) (by rw [hlen];exact hq)
     refine ⟨fun h=>absurd h (by omega),fun ⟨k,k1,k2,k3⟩=>?_⟩
     rw [aN_ge (by omega),aN_ge (by omega)] at k3
     exact absurd k3 (by omega)
theorem cN_all {a:Nat→Int} {o:Nat→Nat→Int} {f:Nat→Nat} {w n:Nat} (ho:∀i j,o i j=0↔eqW a w i j) (hs:∀i,i+1 < n→¬ltW a w (f (i+1)) (f i)) (hn:0 < n) (hl:cN o f (n - 1)=n - 1) (i j:Nat) (hij:i < j) (hj:j < n):ltW a w (f i) (f j):=by
 have h1:=cN_le o f 0 i
 have h2:=cN_le o f i (j - i)
 have h3:=cN_le o f j (n - 1 - j)
 have h0:cN o f 0=0:=rfl
 rw [Nat.zero_add] at h1
 rw [show i+(j - i)=j by omega] at h2
 rw [show j+(n - 1 - j)=n - 1 by omega] at h3
 have h4:=(cN_rank ho hs i (j - i) (by omega)).1
 rw [show i+(j - i)=j by omega] at h4
 exact h4.1 (by omega)
theorem cN_full {o:Nat→Nat→Int} {f:Nat→Nat} {n:Nat} (h:∀i,i+1 < n→o (f i) (f (i+1))≠0) (i:Nat) (hi:i < n):cN o f i=i:=by
 induction i with
 | zero=>rfl
 | succ i ih=>
   show cN o f i+_=_
   rw [if_pos (h i hi),ih (by omega)]
theorem rank_start (l:List Nat):RankOk (aN l) (aN l) 1:=by
 intro i j
 constructor
 · intro h
   exact ⟨0,by omega,fun m hm=>absurd hm (by omega),h⟩
 · rintro ⟨k,h1,_,h3⟩
   have:k=0:=by omega
   subst this
   exact h3
end Go.Proofs.YtipaccakmndkgaaGreatDoor
namespace Go.Proofs.YtipaccakmndkgaaGreatDoor
open Go.RowKit
theorem tcells_perm {L L':List Nat} (h:L.Perm L'):tcells L=tcells L':=by
 refine tcells_ext _ _ (tcells_size L) (fun s hs=>?_) ?_
 · rw [tcells_of L hs,h.count_eq]
 · rw [tcells_all,h.length_eq]
def bitsOf (L:List Nat) (lv p:Nat):List Bool:=(L.filter fun s=>pathN s lv==p).map (bitB · lv)
theorem path_step (s lv:Nat) (h:lv < 9):pathN s (lv+1)=2*pathN s lv+(if bitB s lv then 1 else 0):=by
 unfold pathN bitB
 have e1:9 -(lv+1)=8 - lv:=by omega
 have e2:9 - lv=(8 - lv)+1:=by omega
 rw [e1,e2,Nat.pow_succ,←Nat.div_div_eq_div_mul]
 generalize s / 2 ^(8 - lv)=q
 by_cases hq:q % 2=1
 · simp [hq];omega
 · simp [hq];omega
theorem path_zero (s:Nat) (h:s < 257):pathN s 0=0:=by
 unfold pathN
 exact Nat.div_eq_of_lt (by omega)
theorem path_nine (s:Nat):pathN s 9=s:=by
 unfold pathN
 simp
theorem path_lt (s lv:Nat) (h:s < 257) (hl:lv≤9):pathN s lv < 2 ^ lv:=by
 unfold pathN
 rw [Nat.div_lt_iff_lt_mul (Nat.pos_of_ne_zero (by simp)),←Nat.pow_add,show lv+(9 - lv)=9 by omega]
 omega
theorem bits_count (L:List Nat) (lv s0:Nat) (h:lv < 9):(bitsOf L lv (pathN s0 lv)).count (bitB s0 lv)=L.countP (fun s=>pathN s (lv+1)==pathN s0 (lv+1)):=by
 induction L with
 | nil=>rfl
 | cons x l ih=>
   have h1:=path_step x lv h
   have h2:=path_step s0 lv h
   unfold bitsOf at ih⊢
   rw [List.countP_cons,←ih,List.filter_cons]
   by_cases hp:pathN x lv=pathN s0 lv
   · rw [if_pos (by simp [hp]),List.map_cons,List.count_cons]
     by_cases hb:bitB x lv=bitB s0 lv
     · have:pathN x (lv+1)=pathN s0 (lv+1):=by rw [h1,h2,hp,hb]
       simp [hb,this]
     · have:pathN x (lv+1)≠pathN s0 (lv+1):=by
         rw [h1,h2,hp]
         cases hx:bitB x lv <;> cases hy:bitB s0 lv <;> simp_all
       simp [hb,this]
   · rw [if_neg (by simp [hp])]
     have:pathN x (lv+1)≠pathN s0 (lv+1):=by
        rw [h1,h2]
        cases bitB x lv <;> cases bitB s0 lv <;> simp <;> omega
     simp [this]
theorem bits_take (L:List Nat) (lv p k:Nat):(bitsOf L lv p).take ((L.take k).countP fun s=>pathN s lv==p)=bitsOf (L.take k) lv p:=by
 induction L generalizing k with
 | nil=>simp [bitsOf]
 | cons x l ih=>
   rcases k with _ | k
   · simp [bitsOf]
   · have:=ih k
     unfold bitsOf at this⊢
     rw [List.take_succ_cons,List.countP_cons,List.filter_cons,List.filter_cons]
     by_cases hp:pathN x lv=p
     · simp only [hp,beq_self_eq_true,if_true,List.map_cons,List.take_succ_cons,this]
     · have h0:(pathN x lv==p)=false:=by simp [hp]
       simp only [h0,Bool.false_eq_true,if_false,Nat.add_zero,this]
theorem bits_len (L:List Nat) (lv p:Nat):(bitsOf L lv p).length=L.countP fun s=>pathN s lv==p:=by
 unfold bitsOf
 rw [List.length_map,List.countP_eq_length_filter]
def atLv (L:List Nat) (k s0 lv:Nat):Nat:=(L.take k).countP fun s=>pathN s lv==pathN s0 lv
theorem atLv_zero (L:List Nat) (k s0:Nat) (hk:k≤L.length) (hL:∀s∈L,s < 257) (hs:s0 < 257):atLv L k s0 0=k:=by
 unfold atLv
 rw [List.countP_eq_length.2 (fun s hs'=>by
  have:=hL s (List.mem_of_mem_take hs')
  simp [path_zero _ this,path_zero _ hs]),List.length_take]
 omega
theorem atLv_step (L:List Nat) (k s0 lv:Nat) (h:lv < 9):((bitsOf L lv (pathN s0 lv)).take (atLv L k s0 lv)).count (bitB s0 lv)=atLv L k s0 (lv+1):=by
 unfold atLv
 rw [bits_take,bits_count _ _ _ h]
theorem atLv_le (L:List Nat) (k s0 lv:Nat):atLv L k s0 lv≤(bitsOf L lv (pathN s0 lv)).length:=by
 unfold atLv
 rw [bits_len]
 exact (List.take_sublist k L).countP_le
theorem atLv_nine (L:List Nat) (k s0:Nat):atLv L k s0 9=(L.take k).count s0:=by
 unfold atLv
 rw [List.count_eq_countP]
 congr 1
 funext s
 rw [path_nine,path_nine]
def shelfL (G:Nat→Nat) (lv m:Nat):List Value:=(List.range m).flatMap fun p=> [.pointer (some ⟨G p,0,none⟩),.int .i64 (lv:Int),.int .i64 (p:Int)]
theorem shelfL_succ (G:Nat→Nat) (lv m:Nat):shelfL G lv (m+1)=shelfL G lv m++ [.pointer (some ⟨G m,0,none⟩),.int .i64 (lv:Int),.int .i64 (m:Int)]:=by
 unfold shelfL
 rw [List.range_succ,List.flatMap_append]
 simp
theorem shelfL_len (G:Nat→Nat) (lv m:Nat):(shelfL G lv m).length=m*3:=by
 induction m with
 | zero=>rfl
 | succ m ih=>rw [shelfL_succ,List.length_append,ih];simp;omega
theorem shelfL_get (G:Nat→Nat) (lv m p:Nat) (h:p < m):(shelfL G lv m)[p*3]?=some (.pointer (some ⟨G p,0,none⟩))∧(shelfL G lv m)[p*3+1]?=some (.int .i64 (lv:Int))∧(shelfL G lv m)[p*3+2]?=some (.int .i64 (p:Int)):=by
 induction m with
 | zero=>omega
 | succ m ih=>
   rw [shelfL_succ]
   by_cases e:p=m
   · subst e
     have hl:=shelfL_len G lv p
     refine ⟨?_,?_,?_⟩
     · rw [List.getElem?_append_right (by omega),hl,Nat.sub_self];rfl
     · rw [List.getElem?_append_right (by omega),hl,show p*3+1 - p*3=1 by omega];rfl
     · rw [List.getElem?_append_right (by omega),hl,show p*3+2 - p*3=2 by omega];rfl
   · have hl:=shelfL_len G lv m
     obtain ⟨h1,h2,h3⟩:=ih (by omega)
     refine ⟨?_,?_,?_⟩
     · rw [List.getElem?_append_left (by omega)];exact h1
     · rw [List.getElem?_append_left (by omega)];exact h2
     · rw [List.getElem?_append_left (by omega)];exact h3
theorem shelfL_congr (G G':Nat→Nat) (lv m:Nat) (h:∀p,p < m→G p=G' p):shelfL G lv m=shelfL G' lv m:=by
 induction m with
 | zero=>rfl
 | succ m ih=>rw [shelfL_succ,shelfL_succ,ih (fun p hp=>h p (by omega)),h m (by omega)]
def ShelfRow (w:World) (B:Nat) (v:Value) (L:List Nat) (lv m:Nat):Prop:=
 ∃(G:Nat→Nat),w.ownsRow B 177 3 v m (shelfL G lv m)∧∀p,p < m→B≤G p∧TreeAt w (G p) (bitsOf L lv p)
theorem ShelfRow.vis {w w':World} {B:Nat} {v:Value} {L:List Nat} {lv m:Nat} (h:ShelfRow w B v L lv m) (k:Vis w w'):ShelfRow w' B v L lv m:=by
 obtain ⟨G,h1,h2⟩:=h
 exact ⟨G,k.own h1 (by decide) (by decide),fun p hp=>⟨(h2 p hp).1,(h2 p hp).2.vis k⟩⟩
theorem ShelfRow.below {w w':World} {B:Nat} {v:Value} {L:List Nat} {lv m:Nat} (h:ShelfRow w B v L lv m) (k:Below w.heap.size w w'):ShelfRow w' B v L lv m:=h.vis (Vis.of_below k)
def WaveAt (w:World) (B gv:Nat) (L:List Nat):Prop:=
 B≤gv∧∃(S:Nat→Value) (v:Int),Bk w gv 174 (wcells S (L.length:Int) v)∧∀lv,lv < 9→ShelfRow w B (S lv) L lv (2 ^ lv)
theorem WaveAt.vis {w w':World} {B gv:Nat} {L:List Nat} (h:WaveAt w B gv L) (k:Vis w w'):WaveAt w' B gv L:=by
 obtain ⟨h0,S,v,h1,h2⟩:=h
 obtain ⟨v',h3⟩:=k.waveC h1
 exact ⟨h0,S,v',h3,fun lv hl=>(h2 lv hl).vis k⟩
theorem WaveAt.below {w w':World} {B gv:Nat} {L:List Nat} (h:WaveAt w B gv L) (k:Below w.heap.size w w'):WaveAt w' B gv L:=h.vis (Vis.of_below k)
abbrev VB (B:Nat):World→World→Prop:=VisK (fun b=>B≤b)
theorem VB.to_below {B:Nat} {w w':World} (h:VB B w w') (hB:B≤w.heap.size):Below B w w':=h.2.to_below hB (fun b hb f=>by have:=f;omega)
theorem VB.set_wave {w:World} {B g:Nat} {cs:Array Value} (h:Bk w g 174 cs) (hB:B≤g) (v:Int):VB B w (w.setCell ⟨g,10,none⟩ (.int .i64 v)):=⟨Vis.set_wave h v,Keep.setCell (F:=fun b=>B≤b) (Keep.refl _ _) (p:=⟨g,10,none⟩) (.inl hB) _⟩
structure OrdAt (W:World) (gw gn gr:Nat) (w n:Nat) (A:Option Addr) (c:Nat) (R:List Nat):Prop where
 wide:W.cell? ⟨gw,0,none⟩=some (.int .i64 (w:Int))
 len:W.cell? ⟨gn,0,none⟩=some (.int .i64 (n:Int))
 rank:W.cell? ⟨gr,0,none⟩=some (.slice A n c)
 rd:Rd W W.heap.size 1 A n (R.map sv)
theorem OrdAt.drewN {W:World} {gw gn gr w n c:Nat} {A:Option Addr} {R:List Nat} (h:OrdAt W gw gn gr w n A c R) (q:Nat):OrdAt (W.drewN q) gw gn gr w n A c R:=⟨h.wide,h.len,h.rank,h.rd⟩
theorem OrdAt.at {W:World} {gw gn gr w n c:Nat} {A:Option Addr} {R:List Nat} (h:OrdAt W gw gn gr w n A c R) {i:Nat} (hi:i < n):∃(b off x:Nat),A=some ⟨b,off,none⟩∧R[i]?=some x∧W.cell? ⟨b,off+i,none⟩=some (.int .i64 (x:Int)):=by
 obtain ⟨b,off,u,rfl,hbl,hu,hc⟩:=h.rd.get hi
 rw [List.getElem?_map] at hu
 obtain ⟨x,hx,rfl⟩:=Option.map_eq_some_iff.1 hu
 exact ⟨b,off,x,rfl,hx,hc⟩
theorem Rows1_any (gw gn gr w n c:Nat) (A:Option Addr) (R:List Nat) (i:Nat) (W:World) (h:OrdAt W gw gn gr w n A c R) (hw:w≤1000) (hn:n≤1000) (hi:i < n):
 Calls Tryz.prog 117 #[.int .i64 (i:Int),.pointer (some ⟨gw,0,none⟩),.pointer (some ⟨gn,0,none⟩),.pointer (some ⟨gr,0,none⟩)] W fun e w'=>e=.returned (.int .i64 (aN R (i+w)))∧∃q,w'=W.drewN q:=by
 have hRl:R.length=n:=by simpa using h.rd.1
 have c0:=h.wide
 have c1:=h.len
 have c2:=h.rank
 by_cases hlt:i+w < n
 · have hltI:(i:Int)+(w:Int) < (n:Int):=by omega
   obtain ⟨b,off,x,rfl,hx,hc⟩:=h.at hlt
   have hfin:=aN_some hx
   have HF:=lhd hfin
   clear hx h hfin
   go_enter Tryz.func117,Tryz.ntmps117
   go_wp2
   go_ret
   exact ⟨by rw [HF.out];first | rfl | simp_all,0,rfl⟩
 · have hltI:¬((i:Int)+(w:Int) < (n:Int)):=by omega
   have hfin:=aN_ge (l:=R) (p:=i+w) (by omega)
   have HF:=lhd hfin
   clear h hfin
   go_enter Tryz.func117,Tryz.ntmps117
   go_wp2
   go_ret
   exact ⟨by rw [HF.out];rfl,0,rfl⟩
theorem Rows2_any (gw gn gr gb w n c:Nat) (A:Option Addr) (R:List Nat) (x y:Nat) (W:World) (h:OrdAt W gw gn gr w n A c R) (hb:W.cell? ⟨gb,0,none⟩=some (.func (.func 117) #[] #[.pointer (some ⟨gw,0,none⟩),.pointer (some ⟨gn,0,none⟩),.pointer (some ⟨gr,0,none⟩)])) (hw:w≤1000) (hn:n≤1000) (hR:∀r∈R,r≤1000) (hx:x < n) (hy:y < n):
 Calls Tryz.prog 118 #[.int .i64 (x:Int),.int .i64 (y:Int),.pointer (some ⟨gr,0,none⟩),.pointer (some ⟨gb,0,none⟩)] W fun e w'=>e=.returned (.int .i64 (ordV (aN R) w x y))∧∃q,w'=W.drewN q:=by
 have c2:=h.rank
 have H:=lhd h
 obtain ⟨b,off,p,hA,hp,hcp⟩:=h.at hx
 obtain ⟨b',off',q,hA',hq,hcq⟩:=h.at hy
 rw [hA] at hA'
 injection hA' with hA'
 injection hA' with e1 e2
 subst e1 e2
 have hp1:=hR p (List.mem_of_getElem? hp)
 have hq1:=hR q (List.mem_of_getElem? hq)
 have ep:=aN_some hp
 have eq:=aN_some hq
 have bound:∀i,-1≤aN R i∧aN R i≤1000:=by
  intro i
  unfold aN
  split
  · next z hz=>
    have:=hR z (List.mem_of_getElem? hz)
    omega
  · omega
 have b1:=bound (x+w)
 have b2:=bound (y+w)
 have hov:ordV (aN R) w x y=if (p:Int)≠(q:Int) then (p:Int) -(q:Int) else aN R (x+w) - aN R (y+w):=by
  unfold ordV
  rw [ep,eq]
 obtain ⟨u,hu⟩:∃u,aN R (x+w)=u:=⟨_,rfl⟩
 obtain ⟨v,hv⟩:∃v,aN R (y+w)=v:=⟨_,rfl⟩
 rw [hu,hv] at hov
 rw [hu] at b1
 rw [hv] at b2
 rw [hov]
 subst hA
 have Hu:=lhd hu
 have Hv:=lhd hv
 clear h hp hq ep eq bound hov hu hv hR
 by_cases hpq:p=q
 · subst hpq
   rw [if_neg (by simp)]
   go_enter Tryz.func118,Tryz.ntmps118
   go_wp2
   go_quiet (fail)
   go_wp2
   have k1:∀m:Nat,Calls Tryz.prog 117 #[.int .i64 (x:Int),.pointer (some ⟨gw,0,none⟩),.pointer (some ⟨gn,0,none⟩),.pointer (some ⟨gr,0,none⟩)] (W.drewN (nq+m)) fun e w''=>e=.returned (.int .i64 u)∧∃n,w''=W.drewN (nq+n):=fun m=>by
    have h:=Rows1_any gw gn gr w n c _ R x (W.drewN (nq+m)) (H.out.drewN _) hw hn hx
    rw [Hu.out] at h
    exact h.mono fun _ _ ⟨he,q,hq⟩=>⟨he,m+q,by rw [hq,World.drewN_drewN,Nat.add_assoc]⟩
   have k2:∀m:Nat,Calls Tryz.prog 117 #[.int .i64 (y:Int),.pointer (some ⟨gw,0,none⟩),.pointer (some ⟨gn,0,none⟩),.pointer (some ⟨gr,0,none⟩)] (W.drewN (nq+m)) fun e w''=>e=.returned (.int .i64 v)∧∃n,w''=W.drewN (nq+n):=fun m=>by
    have h:=Rows1_any gw gn gr w n c _ R y (W.drewN (nq+m)) (H.out.drewN _) hw hn hy
    rw [Hv.out] at h
    exact h.mono fun _ _ ⟨he,q,hq⟩=>⟨he,m+q,by rw [hq,World.drewN_drewN,Nat.add_assoc]⟩
   have h64:IntKind.i64.wrap (u - v)=u - v:=by rw [IntKind.wrap_i64];omega
   go_quiet ((first |(with_reducible exact k1 _)|(with_reducible exact k2 _)))
   go_wp2
   go_ret
   exact ⟨ret_i64 (by first | omega | rfl),_,World.drewN_drewN _ _ _⟩
 · have hpI:¬((p:Int)=(q:Int)):=by omega
   rw [if_pos hpI]
   go_enter Tryz.func118,Tryz.ntmps118
   go_wp2
   go_quiet (fail)
   go_wp2
   go_quiet (fail)
   go_wp2
   go_ret
   exact ⟨ret_i64 (by omega),_,World.drewN_drewN _ _ _⟩
end Go.Proofs.YtipaccakmndkgaaGreatDoor
