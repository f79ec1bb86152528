/- The walks of take.Piece where it refuses and of take.Text. Conditions: a text of at most 127 bytes, as New makes it; the table of math/bits stands in its variable. find.Count as texts see it. Conditions: a text of at most 127 bytes. Plain laws: how often letters and patterns stand in a text. No conditions. The walk of perm's Add, for any row and place that have no pair. Conditions: rows and places in order; at most 900 pairs. -/
import Derived.Test.YtipaccakmndkgaaGreatDoorPsl33
import Derived.Test.YtipaccakmndkgaaGreatDoorPsl22
import Derived.Test.YtipaccakmndkgaaGreatDoorPsl34
import Derived.Test.YtipaccakmndkgaaGreatDoorPsl23
set_option linter.unusedVariables false
set_option linter.unusedSimpArgs false
set_option maxRecDepth 100000
set_option maxHeartbeats 4000000
namespace Go.Proofs.YtipaccakmndkgaaGreatDoor
open Go.RowKit
theorem preQ_iff (l:List Nat) (q:List Nat):∀p,preQ l q p=true↔∀(i s:Nat),q[i]?=some s→aN l (p+i)=(s:Int):=by
 induction q with
 | nil=>intro p;exact ⟨fun _ i s h=>by simp at h,fun _=>rfl⟩
 | cons x q ih=>
   intro p
   rw [preQ_cons,Bool.and_eq_true,decide_eq_true_eq,ih]
   constructor
   · rintro ⟨h1,h2⟩ i s h
     rcases i with _ | i
     · simp at h
       subst h
       exact h1
     · have:=h2 i s (by simpa using h)
       rwa [show p+(i+1)=p+1+i by omega]
   · intro h
     refine ⟨h 0 x (by simp),fun i s hi=>?_⟩
     have:=h (i+1) s (by simpa using hi)
     rwa [show p+1+i=p+(i+1) by omega]
theorem aN_symL (t:List UInt8) {p:Nat} {c:UInt8} (h:t[p]?=some c):aN (symL t) p=((c.toNat+1:Nat):Int):=by
 have hp:=(List.getElem?_eq_some_iff.1 h).1
 refine aN_some ?_
 unfold symL symB
 rw [List.getElem?_append_left (by simpa using hp),List.getElem?_map,h]
 rfl
theorem preQ_bytes (t q:List UInt8) (p:Nat):preQ (symL t) (symB q) p=true↔∀(i:Nat) (c:UInt8),q[i]?=some c→t[p+i]?=some c:=by
 rw [preQ_iff]
 constructor
 · intro h i c hc
   have:=h i (c.toNat+1) (by unfold symB;rw [List.getElem?_map,hc];rfl)
   cases ht:t[p+i]? with
   | none=>
     exfalso
     have hge:=List.getElem?_eq_none_iff.1 ht
     rcases Nat.eq_or_lt_of_le hge with e | e
     · have:aN (symL t) (p+i)=0:=by
         rw [aN_some (x:=0)]
         · rfl
         · unfold symL symB
           rw [List.getElem?_append_right (by simp;omega)]
           simp [e]
       omega
     · have:aN (symL t) (p+i)=-1:=aN_ge (by rw [symL_len];omega)
       omega
   | some d=>
     rw [aN_symL t ht] at this
     have e:d.toNat=c.toNat:=by omega
     rw [UInt8.toNat_inj.1 e]
 · intro h i s hs
   unfold symB at hs
   rw [List.getElem?_map] at hs
   obtain ⟨c,hc,rfl⟩:=Option.map_eq_some_iff.1 hs
   exact aN_symL t (h i c hc)
theorem aN_end (t:List UInt8):aN (symL t) t.length=0:=by
 refine aN_some (x:=0) ?_
 unfold symL symB
 rw [List.getElem?_append_right (by simp)]
 simp
end Go.Proofs.YtipaccakmndkgaaGreatDoor
namespace Go.Proofs.YtipaccakmndkgaaGreatDoor
open Go.RowKit Go.Shelf
theorem nodup_sub_len:∀ {l m:List Nat},l.Nodup→(∀x∈l,x∈m)→l.length≤m.length
 | [],m,_,_=>Nat.zero_le _
 | x::l,m,hn,hs=>by
   obtain ⟨h1,h2⟩:=List.nodup_cons.1 hn
   have hxm:=hs x (by simp)
   have:=nodup_sub_len (l:=l) (m:=m.erase x) h2 fun y hy=>by
    have hne:y≠x:=fun e=>h1 (by rw [←e];exact hy)
    exact (List.mem_erase_of_ne hne).2 (hs y (by simp [hy]))
   have hl:=List.length_erase_of_mem hxm
   have hp:=List.length_pos_of_mem hxm
   rw [List.length_cons]
   omega
theorem ins_sorted {l:List Nat} {f:Nat→Nat} (h:l.Pairwise (fun a b=>f a < f b)) (k:Nat) (hk:∀x∈l,f x≠f k):(insN l (l.countP fun x=>decide (f x < f k)) k).Pairwise (fun a b=>f a < f b):=by
 unfold insN
 have hlt:=fun (j x:Nat) (hj:l[j]?=some x)=>cnt_lt h (f k) j x hj
 obtain ⟨c,hc⟩:∃c,(l.countP fun x=>decide (f x < f k))=c:=⟨_,rfl⟩
 rw [hc] at hlt⊢
 rw [List.pairwise_append]
 refine ⟨h.sublist (List.take_sublist c l),List.pairwise_cons.2 ⟨fun x hx=>?_,h.sublist (List.drop_sublist c l)⟩,fun x hx y hy=>?_⟩
 · obtain ⟨j,hj,rfl⟩:=List.getElem_of_mem hx
   rw [List.length_drop] at hj
   rw [List.getElem_drop]
   have h1:=hlt (c+j) l[c+j] (List.getElem?_eq_getElem (by omega))
   have h2:=hk l[c+j] (List.getElem_mem (by omega))
   omega
 · have hxk:f x < f k:=by
    obtain ⟨j,hj,rfl⟩:=List.getElem_of_mem hx
    rw [List.length_take] at hj
    rw [List.getElem_take]
    exact (hlt j l[j] (List.getElem?_eq_getElem (by omega))).2 (by omega)
   rcases List.mem_cons.1 hy with rfl | hy
   · exact hxk
   · have:=List.pairwise_append.1 (show (l.take c++l.drop c).Pairwise (fun a b=>f a < f b) by rw [List.take_append_drop];exact h)
     exact this.2.2 x hx y hy
theorem app_true (tk:List Bool) (x:Nat) (b:Bool):(tk++ [true])[x]?=some b↔tk[x]?=some b∨(x=tk.length∧b=true):=by
 by_cases c:x < tk.length
 · rw [List.getElem?_append_left c]
   constructor
   · exact .inl
   · rintro (h |⟨h,_⟩)
     · exact h
     · omega
 · rw [List.getElem?_append_right (by omega),List.getElem?_eq_none (show tk.length≤x by omega)]
   by_cases c2:x=tk.length
   · subst c2
     cases b <;> simp
   · rw [List.getElem?_eq_none (by simp;omega)]
     simp [c2]
def AF (ga:Nat) (vt vf:Value) (b:Nat):Prop:=b=ga∨vt.ownBlock=some b∨vf.ownBlock=some b
section
variable {w : World} {F : Nat → Prop} {gp ga : Nat} {vl vo vt vf : Value} {R P : Nat} {ks : List Nat} {C : List (Nat × Nat)} {tk : List Bool} {fr : List Nat}
theorem PermX.arena (h:PermX w F gp ga vl vo vt vf R P ks C tk fr):ArenaE w (AF ga vt vf) ga tk fr:=by
 have a:=h.at_
 obtain ⟨At,ct,e1,_⟩:=own_shape a.trow
 obtain ⟨Af,cf,e2,_⟩:=own_shape a.frow
 subst e1 e2
 exact ⟨.inl rfl,At,ct,Af,cf,a.ar,own_mono a.trow (Nat.zero_le _),own_mono a.frow (Nat.zero_le _),fun b hb=>.inr (.inl hb),fun b hb=>.inr (.inr hb)⟩
theorem PermX.af (h:PermX w F gp ga vl vo vt vf R P ks C tk fr) {b:Nat} (hb:AF ga vt vf b):F b:=by
 rcases hb with rfl | hb | hb
 · exact h.fa
 · exact h.ft b hb
 · exact h.ff b hb
theorem PermX.gp_af (h:PermX w F gp ga vl vo vt vf R P ks C tk fr):¬AF ga vt vf gp:=by
 have a:=h.at_
 rintro (e | e | e)
 · exact Bk.ne a.blk a.ar (by decide) e
 · obtain ⟨cs,hc⟩:=own_ty a.trow e
   exact absurd (bk_inj hc a.blk).1 (by decide)
 · obtain ⟨cs,hc⟩:=own_ty a.frow e
   exact absurd (bk_inj hc a.blk).1 (by decide)
theorem PermX.pair_af (h:PermX w F gp ga vl vo vt vf R P ks C tk fr) {b:Nat} {cs:Array Value} (hb:Bk w b 159 cs):¬AF ga vt vf b:=by
 have a:=h.at_
 rintro (e | e | e)
 · exact Bk.ne hb a.ar (by decide) e
 · obtain ⟨cs',hc⟩:=own_ty a.trow e
   exact absurd (bk_inj hc hb).1 (by decide)
 · obtain ⟨cs',hc⟩:=own_ty a.frow e
   exact absurd (bk_inj hc hb).1 (by decide)
theorem PermX.ord_af (h:PermX w F gp ga vl vo vt vf R P ks C tk fr) {b:Nat} (hb:vo.ownBlock=some b):¬AF ga vt vf b:=by
 have a:=h.at_
 obtain ⟨cs,hc⟩:=own_ty a.orow hb
 rintro (e | e | e)
 · exact Bk.ne hc a.ar (by decide) e
 · obtain ⟨cs',hc'⟩:=own_ty a.trow e
   exact absurd (bk_inj hc hc').1 (by decide)
 · rcases a.apart with f | f
   · rw [f] at hb
     cases hb
   · exact f (hb.trans e.symm)
end
def TookPost (ga N:Nat) (vt vf:Value) (ks:List Nat) (w:World) (e:Ending) (w':World):Prop:=
 ∃(k:Nat) (tk:List Bool) (fr:List Nat),e=.returned (.tuple #[.int .i64 (k:Int),.int .i64 0])∧k∉ks∧ArenaE w' (Gw (AF ga vt vf) w.heap.size) ga tk fr∧((k < N∧tk.length=N)∨(k=N∧tk.length=N+1∧N≤ks.length))∧(∀x,tk[x]?=some true↔x∈ks∨x=k)∧fr.Nodup∧(∀x,x∈fr↔tk[x]?=some false)∧Keep (AF ga vt vf) w w'
theorem PermTake_any (F:Nat→Prop) (gp ga R P:Nat) (vl vo vt vf:Value) (ks:List Nat) (C:List (Nat×Nat)) (tk:List Bool) (fr:List Nat) (w:World) (h:PermX w F gp ga vl vo vt vf R P ks C tk fr):
 Calls Tryz.prog 122 #[.pointer (some ⟨ga,0,none⟩)] w (TookPost ga C.length vt vf ks w):=by
 have hA:=h.arena
 have a:=h.at_
 have hsz:=h.sz
 have hfl:∀x∈fr,x < tk.length:=fun x hx=>(List.getElem?_eq_some_iff.1 ((h.frk x).1 hx)).1
 rcases List.eq_nil_or_concat fr with hf0 |⟨fr0,k,hfk⟩
 · subst hf0
   obtain ⟨At,ct,e1,_⟩:=own_shape a.trow
   obtain ⟨Af,cf,e2,_⟩:=own_shape a.frow
   have har:=a.ar
   have htr:=a.trow
   rw [e1,e2] at har
   rw [e1] at htr
   have hT:=TakeMore_any 0 ga At ct Af cf tk.length tk w har htr (Nat.zero_le _) (by have:=h.tkl;omega)
   refine hT.mono ?_
   rintro e w' ⟨rfl,hk,vt',hb',ho',hfr'⟩
   have hn:tk.length∉ks:=fun hm=>by
    have:=(h.tkk _).2 hm
    rw [List.getElem?_eq_none (Nat.le_refl _)] at this
    cases this
   obtain ⟨At',ct',e1',_⟩:=own_shape ho'
   have hkA:Keep (AF ga vt vf) w w':=hk.mono fun b _ f=>by
    rcases f with f | f
    · exact .inl f
    · exact .inr (.inl (by rw [e1];exact f))
   have hfo:w'.ownsRow 0 3 1 vf 0 []:=by
    have:=own_same (w':=w') (own_mono a.frow (Nat.zero_le _)) fun b cs _ hb=>hk.bk hb fun f=>by
        rcases f with f | f
        · exact Bk.ne hb a.ar (by decide) f
        · obtain ⟨cs',hc'⟩:=own_ty htr f
          exact absurd (bk_inj hb hc').1 (by decide)
    exact this
   rw [e2] at hfo
   have hl1:(tk++ [true]).length=tk.length+1:=by simp
   have htl:=h.tkl
   have hall:C.length≤ks.length:=by
    have h9:=nodup_sub_len (l:=List.range C.length) (m:=ks) List.nodup_range fun x hx=>by
        rw [List.mem_range,←htl] at hx
        cases hb:tk[x] with
        | true=>exact (h.tkk x).1 (by rw [List.getElem?_eq_getElem hx,hb])
        | false=>exact absurd ((h.frk x).2 (by rw [List.getElem?_eq_getElem hx,hb])) (by simp)
    simpa using h9
   refine ⟨tk.length,tk++ [true], [],rfl,hn,⟨.inl (.inl rfl),At',ct',Af,cf,?_,?_,hfo,?_,?_⟩,.inr ⟨htl,by rw [hl1,htl],hall⟩,fun x=>?_,List.nodup_nil,fun x=>?_,hkA⟩
   · rw [hl1,←e1']
     exact hb'
   · rw [hl1,←e1']
     exact ho'
   · intro b hb
     rw [hl1,←e1'] at hb
     rcases hfr' with f |⟨g,f,f'⟩
     · rw [f] at hb
       exact .inl (.inr (.inl (by rw [e1];exact hb)))
     · rw [f] at hb
       injection hb with hb
       subst hb
       exact .inr f'
   · intro b hb
     exact .inl (.inr (.inr (by rw [e2];exact hb)))
   · rw [←h.tkk x,app_true]
     simp
   · rw [h.frk x,app_true]
     simp
 · have hfk':fr=fr0++ [k]:=by simpa using hfk
   subst hfk'
   have hk:=(h.frk k).1 (by simp)
   have hkl:=hfl k (by simp)
   have hnd:=h.frn
   have hlen:(fr0++ [k]).length≤tk.length:=ks_len hnd hfl
   have hT:=TakePop_any (AF ga vt vf) ga k tk fr0 w hA hkl (by have:=h.tkl;omega) (by simp at hlen;omega)
   refine hT.mono ?_
   rintro e w' ⟨rfl,hA',hk'⟩
   have hnk:k∉ks:=fun hm=>by
    have:=(h.tkk k).2 hm
    rw [hk] at this
    cases this
   have hnd0:=List.nodup_append.1 hnd
   have hget:∀x,(tk.set k true)[x]?=if x=k then some true else tk[x]?:=fun x=>by
    rw [List.getElem?_set]
    by_cases c:k=x
    · subst c
      simp [hkl]
    · rw [if_neg c,if_neg (fun e=>c e.symm)]
   refine ⟨k,tk.set k true,fr0,rfl,hnk,hA'.mono fun b _ f=>.inl f,.inl ⟨by rw [←h.tkl];exact hkl,by rw [List.length_set,h.tkl]⟩,fun x=>?_,hnd0.1,fun x=>?_,hk'⟩
   · rw [hget,←h.tkk x]
     by_cases c:x=k
     · simp [c]
     · simp [c]
   · rw [hget]
     by_cases c:x=k
     · subst c
       rw [if_pos rfl]
       constructor
       · intro hx
         exact absurd rfl (hnd0.2.2 x hx x (by simp))
       · intro hx
         cases hx
     · rw [if_neg c,←h.frk x]
       simp [c]
theorem PermX.stow {w w':World} {F:Nat→Prop} {gp ga R P k row pos i n0:Nat} {vl' vo':Value} {ks:List Nat} {C C9:List (Nat×Nat)} {tk:List Bool} {fr:List Nat} {AFF:Nat→Prop}
 (hks:∀x∈ks,x < C.length) (hnd:ks.Nodup) (hnk:k∉ks) (hk9:k < C9.length) (hC9:C.length≤C9.length) (hsz:C9.length≤1000) (htkl:tk.length=C9.length)
 (hget:∀x∈ks,(rowK C9 x,posK C9 x)=(rowK C x,posK C x)) (hs:ks.Pairwise (fun a b=>rowK C a < rowK C b)) (hi:i=ks.countP fun x=>decide (rowK C x < row)) (hne:∀x∈ks,rowK C x≠row)
 (hb:Bk w' gp 157 #[.pointer (some ⟨ga,0,none⟩),vl',vo',.int .i64 (R:Int),.int .i64 (P:Int)])
 (hl:w'.ownsRow 0 159 2 vl' C9.length (pairsL (C9.set k (row,pos)))) (ho:w'.ownsRow 0 3 1 vo' (ks.length+1) ((insN ks i k).map sv))
 (ha:ArenaE w' AFF ga tk fr) (haf:∀b,AFF b→F b) (hga:F ga) (hgp:F gp) (hvl:OwnF F vl') (hvo:OwnF F vo') (hap:∀b,vo'.ownBlock=some b→¬AFF b)
 (htk:∀x,tk[x]?=some true↔x∈ks∨x=k) (hfn:fr.Nodup) (hfk:∀x,x∈fr↔tk[x]?=some false):
 ∃vt vf,PermX w' F gp ga vl' vo' vt vf R P (insN ks i k) (C9.set k (row,pos)) tk fr∧((insN ks i k).map fun x=>(rowK (C9.set k (row,pos)) x,posK (C9.set k (row,pos)) x))=insN (ks.map fun x=>(rowK C x,posK C x)) i (row,pos)∧(insN ks i k).Pairwise (fun a b=>rowK (C9.set k (row,pos)) a < rowK (C9.set k (row,pos)) b):=by
 obtain ⟨hAg,At,ct,Af,cf,h1,h2,h3,h4,h5⟩:=ha
 have hile:i≤ks.length:=by rw [hi];exact List.countP_le_length
 have hg:∀x,(rowK (C9.set k (row,pos)) x,posK (C9.set k (row,pos)) x)=if x=k then (row,pos) else (rowK C9 x,posK C9 x):=fun x=>by
  unfold rowK posK
  rw [List.getD_eq_getElem?_getD,List.getElem?_set]
  by_cases cx:k=x
  · subst cx
    rw [if_pos rfl,if_pos rfl,if_pos hk9]
    rfl
  · rw [if_neg cx,if_neg (fun e=>cx e.symm),List.getD_eq_getElem?_getD]
 have hgk:∀x∈ks,(rowK (C9.set k (row,pos)) x,posK (C9.set k (row,pos)) x)=(rowK C x,posK C x):=fun x hx=>by
  rw [hg,if_neg (fun e=>hnk (by rw [←e];exact hx)),hget x hx]
 have hkk:=hg k
 rw [if_pos rfl] at hkk
 have hperm:(insN ks i k).Perm (k::ks):=insN_perm _ _ _
 have hmem:∀x,x∈insN ks i k↔x=k∨x∈ks:=fun x=>by rw [hperm.mem_iff,List.mem_cons]
 refine ⟨_,_,⟨⟨hb,by rw [List.length_set];exact hl,by rw [insN_len _ _ hile];exact ho,h1,h2,h3,?_,fun x hx=>?_,⟨Nat.zero_le _,Nat.zero_le _⟩⟩,hgp,hga,hvl,hvo,fun b hb'=>haf b (h4 b hb'),fun b hb'=>haf b (h5 b hb'),hperm.nodup_iff.2 (List.nodup_cons.2 ⟨hnk,hnd⟩),by rw [List.length_set];exact htkl,fun x=>by rw [htk x,hmem x];exact Or.comm,hfn,hfk,by rw [List.length_set];exact hsz⟩,?_,?_⟩
 · cases hvb:vo'.ownBlock with
   | none=>exact .inl rfl
   | some b=>exact .inr fun e=>hap b hvb (h5 b e.symm)
 · rw [List.length_set]
   rcases (hmem x).1 hx with rfl | hx
   · exact hk9
   · exact Nat.lt_of_lt_of_le (hks x hx) hC9
 · rw [insN_map,hkk]
   congr 1
   exact List.map_congr_left fun x hx=>hgk x hx
 · have hrow:∀x∈ks,rowK (C9.set k (row,pos)) x=rowK C x:=fun x hx=>(Prod.mk.inj (hgk x hx)).1
   have hrk:rowK (C9.set k (row,pos)) k=row:=(Prod.mk.inj hkk).1
   have hs':ks.Pairwise (fun a b=>rowK (C9.set k (row,pos)) a < rowK (C9.set k (row,pos)) b):=by
    refine List.Pairwise.imp_of_mem (fun {a b} ha hb hab=>?_) hs
    rw [hrow a ha,hrow b hb]
    exact hab
   have:=ins_sorted (f:=rowK (C9.set k (row,pos))) hs' k fun x hx=>by
    rw [hrow x hx,hrk]
    exact hne x hx
   have he:(ks.countP fun x=>decide (rowK (C9.set k (row,pos)) x < rowK (C9.set k (row,pos)) k))=i:=by
    rw [hi,hrk]
    refine List.countP_congr fun x hx=>?_
    rw [hrow x hx]
   rw [he] at this
   exact this
def rowLen (w:World) (gp:Nat):Nat:=match w.cell? ⟨gp,1,none⟩ with
 | some (.slice _ n _)=>n
 | _=>0
structure AddL (F:Nat→Prop) (gp ga R P k:Nat) (vo:Value) (ks:List Nat) (C:List (Nat×Nat)) (tk:List Bool) (fr9:List Nat) (AFF:Nat→Prop) (n3:Nat) (w2 wr:World) (A9:Option Addr) (M c9:Nat) (C9:List (Nat×Nat)):Prop where
 blk:Bk wr gp 157 #[.pointer (some ⟨ga,0,none⟩),.slice A9 M c9,vo,.int .i64 (R:Int),.int .i64 (P:Int)]
 own:wr.ownsRow 0 159 2 (.slice A9 M c9) M (pairsL C9)
 len:C9.length=M
 lo:C.length≤M
 hi:M≤max C.length (k+1)
 get:∀x∈ks,(rowK C9 x,posK C9 x)=(rowK C x,posK C x)
 ord:wr.ownsRow 0 3 1 vo ks.length (ks.map sv)
 ar:ArenaE wr AFF ga tk fr9
 keep:Keep F w2 wr
 fl:OwnF (Gw F w2.heap.size) (.slice A9 M c9)
 k3:n3≤wr.heap.size
theorem PermAddE_any (F:Nat→Prop) (gp R P row pos:Nat) (pr:List (Nat×Nat)) (w:World) (h:PermE w F gp R P pr) (hrow:row < R) (hpos:pos < P) (hnr:∀x∈pr,x.1≠row) (hnp:∀x∈pr,x.2≠pos) (hlen:pr.length≤900):
 Calls Tryz.prog 51 #[.pointer (some ⟨gp,0,none⟩),.int .i64 (row:Int),.int .i64 (pos:Int)] w fun e w'=>e=.returned (.int .i64 0)∧(∃pr',pr'.Perm ((row,pos)::pr)∧PermE w' (Gw F w.heap.size) gp R P pr')∧Keep F w w':=by
 obtain ⟨⟨ga,vl,vo,vt,vf,ks,C,tk,fr,hx,rfl⟩,hsort,hbd⟩:=h
 obtain ⟨i0,hi0,hz0,hz1,hz2⟩:=info_parts pair_info
 have a:=hx.at_
 have hs0:=List.pairwise_map.1 hsort
 have hs:ks.Pairwise (fun a b=>rowK C a < rowK C b):=hs0
 have hnr':∀k∈ks,rowK C k≠row:=fun k hk=>hnr _ (List.mem_map.2 ⟨k,hk,rfl⟩)
 have hnp':∀k∈ks,posK C k≠pos:=fun k hk=>hnp _ (List.mem_map.2 ⟨k,hk,rfl⟩)
 have hbd':∀k∈ks,rowK C k < R∧posK C k < P:=fun k hk=>hbd _ (List.mem_map.2 ⟨k,hk,rfl⟩)
 have hkl:ks.length≤900:=by simpa using hlen
 obtain ⟨i,hi⟩:∃i,(ks.countP fun k=>decide (rowK C k < row))=i:=⟨_,rfl⟩
 have hile:i≤ks.length:=by rw [←hi];exact List.countP_le_length
 have hfnd:decide (∃k∈ks,rowK C k=row)=false:=by
  rw [decide_eq_false_iff_not]
  rintro ⟨k,hk,e⟩
  exact hnr' k hk e
 have hhas:firstI (fun k=>decide (posK C k=pos)) ks 0=-1:=firstI_none (fun k hk=>by simpa using hnp' k hk) 0
 have hat:=PermAt_any 0 gp ga vl vo vt vf R P ks C tk fr row w a hs (by omega)
 rw [hi,hfnd] at hat
 have hhs:=fun W hW=>PermHas_any 0 gp ga vl vo vt vf R P ks C tk fr pos W hW (by omega)
 simp only [hhas] at hhs
 have c3:w.cell? ⟨gp,3,none⟩=some (.int .i64 (R:Int)):=(a.blk.cell 3).trans rfl
 have c4:w.cell? ⟨gp,4,none⟩=some (.int .i64 (P:Int)):=(a.blk.cell 4).trans rfl
 obtain ⟨n,hn⟩:∃n,ks.length=n:=⟨_,rfl⟩
 obtain ⟨N,hN⟩:∃n,C.length=n:=⟨_,rfl⟩
 have hn9:n≤900:=by omega
 have hN9:N≤1000:=by rw [←hN];exact hx.sz
 have Hhs:=lhd hhs
 have HX:=lhd hx
 have Hs:=lhd hs
 have Hnr:=lhd hnr'
 have Hbd:=lhd hbd'
 have Hi:=lhd hi
 have Hn:=lhd hn
 have HN:=lhd hN
 rw [hn] at hile
 clear hs0 hfnd hhas hhs hsort hbd hnr hnp hnr' hnp' hbd' hx a hs hi hlen hkl hn hN
 go_enter Tryz.func51,Tryz.ntmps51
 go_wp2_with fail
 refine hat.mono ?_
 clear hat
 rintro e w1 ⟨rfl,hb1⟩
 have h1:=HX.out.at_.below hb1
 have H1:=lhd h1
 have Hb1:=lhd hb1
 clear h1 hb1 c3 c4
 go_wp2_with fail
 refine (Hhs.out w1 H1.out).mono ?_
 rintro e w2 ⟨rfl,hb2⟩
 have hb12:=Hb1.out.trans (hb2.mono Hb1.out.size)
 have hx2:PermX w2 F gp ga vl vo vt vf R P ks C tk fr:= { HX.out with at_:=H1.out.below hb2 }
 have c0:w2.cell? ⟨gp,0,none⟩=some (.pointer (some ⟨ga,0,none⟩)):=(hx2.at_.blk.cell 0).trans rfl
 have H2:=lhd hx2
 have Hb2:=lhd hb12
 clear hx2 hb12 hb2 H1 Hb1 Hhs HX
 go_wp2_with fail
 have hT:=PermTake_any F gp ga R P vl vo vt vf ks C tk fr w2 H2.out
 unfold TookPost at hT
 refine hT.mono ?_
 clear hT
 rintro e w3 ⟨k,tk3,fr3,rfl,hnk,hA3,hcase,htk3,hfn3,hfk3,hk3⟩
 have hgp3:=hk3.bk H2.out.at_.blk H2.out.gp_af
 have hvl3:=own_same (w':=w3) H2.out.at_.lrow fun b cs _ hb=>hk3.bk hb (H2.out.pair_af hb)
 have hvo3:=own_same (w':=w3) H2.out.at_.orow fun b cs hb hk=>hk3.bk hk (H2.out.ord_af hb)
 obtain ⟨Al,cl,hvl,_⟩:=own_shape hvl3
 obtain ⟨Ao,co,hvo,_⟩:=own_shape hvo3
 have hvl':vl=.slice Al N cl:=by rw [hvl,HN.out]
 have hvo':vo=.slice Ao n co:=by rw [hvo,Hn.out]
 rw [HN.out] at hvl3
 rw [Hn.out] at hvo3
 have d1:w3.cell? ⟨gp,1,none⟩=some (.slice Al N cl):=(hgp3.cell 1).trans (by rw [hvl'];rfl)
 have fp:=hgp3.frozen 1
 have hgp3l:=hgp3.lt
 have hkN:k≤N:=by have:=HN.out;omega
 have hkF3:Keep F w2 w3:=hk3.mono fun b _ f=>H2.out.af f
 have Hk3:=lhd hk3
 have HkF3:=lhd hkF3
 have HA3:=lhd (hA3.mono (G:=fun b=>Gw (AF ga vt vf) w2.heap.size b∧b < w3.heap.size) fun b hb f=>⟨f,hb⟩)
 have Hcase:=lhd hcase
 have Hgp3:=lhd hgp3
 have Hvl3:=lhd hvl3
 have Hvo3:=lhd hvo3
 have Hvl:=lhd hvl'
 have Hvo:=lhd hvo'
 have Hnk:=lhd hnk
 have Htk3:=lhd htk3
 have Hfn3:=lhd hfn3
 have Hfk3:=lhd hfk3
 have e1:=(World.cell?_alloc_lt w3 (Obj.cells #[.int .i64 0,.int .i64 0] 159) ⟨gp,1,none⟩ hgp3l).trans d1
 clear hk3 hkF3 hA3 hcase hgp3 hvl3 hvo3 hvl hvo hvl' hvo' hnk htk3 hfn3 hfk3 c0
 have hinit:AddL F gp ga R P k vo ks C tk3 fr3 (fun b=>Gw (AF ga vt vf) w2.heap.size b∧b < w3.heap.size) w3.heap.size w2 w3 Al N cl C:=
  ⟨by have:=Hgp3.out;rwa [Hvl.out] at this,by have:=Hvl3.out;rwa [Hvl.out] at this,HN.out,by rw [HN.out];exact Nat.le_refl _,by have:=HN.out;omega,fun x _=>rfl,by rw [Hn.out];exact Hvo3.out,HA3.out,HkF3.out,fun b hb=>.inl (H2.out.fl b (by rw [Hvl.out];exact hb)),Nat.le_refl _⟩
 have Hinit:=lhd hinit
 clear hinit d1 fp e1
 go_wp2_with fail
 go_loopw [] (fun wr=>∃A9 M c9 C9,AddL F gp ga R P k vo ks C tk3 fr3 (fun b=>Gw (AF ga vt vf) w2.heap.size b∧b < w3.heap.size) w3.heap.size w2 wr A9 M c9 C9) (fun wr=>k+1 - rowLen wr gp)
 case atStart=>exact ⟨_,_,_,_,Hinit.out⟩
 case round=>
  obtain ⟨A9,M,c9,C9,hL⟩:=hrel
  clear Hinit Hgp3 Hvl3 Hvo3 HA3 HkF3 Hk3
  have d1:wr.cell? ⟨gp,1,none⟩=some (.slice A9 M c9):=(hL.blk.cell 1).trans rfl
  have fp:=hL.blk.frozen 1
  have hgpl:=hL.blk.lt
  have hM:=hL.len
  have hM1:=hL.lo
  have hM2:=hL.hi
  rw [HN.out] at hM1 hM2
  by_cases hlt:M≤k
  · have hltB:decide (M≤k)=true:=decide_eq_true hlt
    have hltI:(M:Int)≤(k:Int):=by omega
    obtain rfl:M=N:=by omega
    have e1:=(World.cell?_alloc_lt wr (Obj.cells #[.int .i64 0,.int .i64 0] 159) ⟨gp,1,none⟩ hgpl).trans d1
    have hrl:rowLen wr gp=M:=by unfold rowLen;rw [d1]
    have HL:=lhd hL
    have Hrl:=lhd hrl
    clear hL hrl
    go_wp2_with (at_builtin;refine wpList_push _ rfl (.tmp 72) (.tmp 74) _ rfl 0 159 i0 (.agg #[.int .i64 0,.int .i64 0]) 2 16 Tryz.underlying131 hi0 hz0 hz1 hz2 rfl (by decide) (.slice A9 M c9) M _ rfl HL.out.own rfl rfl (by simp [Value.oneCell']) (by unfold maxLen;omega) (by omega) (Nat.zero_le _) ?_;intro v5 w5 hown5 hg5 hs5 hat5;have hbk5:=HL.out.blk.grown hg5 (own_bk_ne HL.out.own HL.out.blk (by decide));have d5:w5.cell? ⟨gp,1,none⟩=some (.slice A9 M c9):=(hbk5.cell 1).trans rfl;have f5:=hbk5.frozen 1;obtain ⟨A8,c8,rfl,hm8⟩:=made_of_own hown5;have Hbk5:=lhd hbk5;have Hown5:=lhd hown5;have Hg5:=lhd hg5;have Hat5:=lhd hat5;clear hm8 hown5 hg5 hat5 hbk5)
    have hkA:Keep (fun b=>(Value.slice A9 M c9).ownBlock=some b) wr w5:=⟨Hg5.out.os,Hg5.out.tape,Hg5.out.output,Hg5.out.size,fun b hb hne=>Hg5.out.block b hb fun e=>hne e.symm⟩
    have hL':AddL F gp ga R P k vo ks C tk3 fr3 (fun b=>Gw (AF ga vt vf) w2.heap.size b∧b < w3.heap.size) w3.heap.size w2 (w5.setCell ⟨gp,1,none⟩ (.slice A8 (M+1) c8)) A8 (M+1) c8 (C9++ [(0,0)]):=by
        have L:=HL.out
        have hfar:∀b t cs,t≠157→Bk w5 b t cs→Bk (w5.setCell ⟨gp,1,none⟩ (.slice A8 (M+1) c8)) b t cs:=fun b t cs ht hb=>hb.far (p:=⟨gp,1,none⟩) (Bk.ne hb Hbk5.out ht) _
        have hpa:∀b,(Value.slice A9 M c9).ownBlock=some b→Gw F w2.heap.size b:=fun b hb=>L.fl b hb
        have hne:∀b t cs,t≠159→Bk wr b t cs→¬((Value.slice A9 M c9).ownBlock=some b):=fun b t cs ht hb e=>by
         obtain ⟨cs',hc⟩:=own_ty L.own e
         exact ht (bk_inj hb hc).1
        refine ⟨Hbk5.out.set 1 _,?_,by rw [List.length_append,L.len];rfl,by have:=L.lo;omega,by omega,fun x hx=>?_,?_,?_,?_,?_,?_⟩
        · rw [pairsL_snoc]
          exact own_same Hown5.out fun b cs _ hb=>hfar _ _ _ (by decide) hb
        · rw [←L.get x hx]
          have hxl:=H2.out.at_.lt x hx
          unfold rowK posK
          rw [List.getD_eq_getElem?_getD,List.getD_eq_getElem?_getD,List.getElem?_append_left (by have:=L.lo;have:=L.len;omega)]
        · exact own_same L.ord fun b cs _ hb=>hfar _ _ _ (by decide) (hkA.bk hb (hne _ _ _ (by decide) hb))
        · refine (L.ar.keep hkA fun b t cs ht hb _=>hne b t cs (fun e=>by subst e;revert ht;decide) hb).keep (G:=fun b=>b=gp) (Keep.setCell (F:=fun b=>b=gp) (Keep.refl _ _) (p:=⟨gp,1,none⟩) (.inl rfl) _) fun b t cs ht hb _ e=>?_
          have e':b=gp:=e
          subst e'
          rw [(bk_inj hb Hbk5.out).1] at ht
          revert ht
          decide
        · refine Keep.setCell (F:=F) (L.keep.trans' hkA fun b hb f=>?_) (p:=⟨gp,1,none⟩) (.inl H2.out.fp) _
          rcases L.fl b f with g | g
          · exact g
          · omega
        · intro b hb
          rcases Hat5.out with e | e
          · rw [e] at hb
            exact L.fl b hb
          · rw [e] at hb
            injection hb with hb
            subst hb
            exact .inr (by have:=L.keep.size;omega)
        · have h1:=L.k3
          have h2:=hkA.size
          have h3:(w5.setCell ⟨gp,1,none⟩ (.slice A8 (M+1) c8)).heap.size=w5.heap.size:=by simp [World.setCell]
          omega
    have hrl':rowLen (w5.setCell ⟨gp,1,none⟩ (.slice A8 (M+1) c8)) gp=M+1:=by
        have d9:(w5.setCell ⟨gp,1,none⟩ (.slice A8 (M+1) c8)).cell? ⟨gp,1,none⟩=some (.slice A8 (M+1) c8):=(hL'.blk.cell 1).trans rfl
        unfold rowLen
        rw [d9]
    have HL':=lhd hL'
    have Hrl':=lhd hrl'
    clear hL' hrl' hkA Hbk5 Hown5 Hg5 Hat5 HL
    go_roundw
    case rel=>exact ⟨_,_,_,_,HL'.out⟩
    case measure=>
        rw [Hrl.out,Hrl'.out]
        omega
  · have hltB:decide (M≤k)=false:=decide_eq_false hlt
    have hltI:¬(M:Int)≤(k:Int):=by omega
    have hkM:k < M:=by omega
    have hkMI:(k:Int) < (M:Int):=by omega
    obtain ⟨g9,k9,hs9,_,hg9⟩:=World.ownsRow.form hL.own (by omega)
    injection hs9 with hs9 _ hs9c
    subst hs9 hs9c
    obtain ⟨cur9,hb9⟩:=own_bk hL.own
    have hgpn:gp≠g9:=Bk.ne hL.blk hb9 (by decide)
    have y0:=hb9.frozen (k*2)
    have y1:=hb9.frozen (k*2+1)
    obtain ⟨p0,p1⟩:=pairsL_get C9 k (by rw [hM];exact hkM)
    have x0:=(World.ownsRow.cellAt hL.own (k*2) (by omega)).trans p0
    have x1:=(World.ownsRow.cellAt hL.own (k*2+1) (by omega)).trans p1
    generalize rowK C9 k=u0 at x0 p0
    generalize posK C9 k=u1 at x1 p1
    obtain ⟨Ao,co,hvo,_⟩:=own_shape hL.ord
    rw [Hn.out] at hvo
    have d2:wr.cell? ⟨gp,2,none⟩=some (.slice Ao n co):=(hL.blk.cell 2).trans (by rw [hvo];rfl)
    have HL:=lhd hL
    have Hb9:=lhd hb9
    have Hvo2:=lhd hvo
    clear hL hb9 hvo p0 p1
    go_wp2_with fail
    have hvl7:((wr.setCell ⟨g9,k*2,none⟩ (.int .i64 (row:Int))).setCell ⟨g9,k*2+1,none⟩ (.int .i64 (pos:Int))).ownsRow 0 159 2 (.slice (some ⟨g9,0,none⟩) M c9) M (pairsL (C9.set k (row,pos))):=by
        have s1:=(World.ownsRow.stored HL.out.own (k*2) (.int .i64 (row:Int))).1
        rw [pairsL_set0 C9 k row (by rw [HL.out.len];exact hkM)] at s1
        have s2:=(World.ownsRow.stored s1 (k*2+1) (.int .i64 (pos:Int))).1
        rw [pairsL_set1 _ k pos (by rw [List.length_set,HL.out.len];exact hkM)] at s2
        rw [List.set_set] at s2
        have e9:rowK (C9.set k (row,posK C9 k)) k=row:=by
         unfold rowK
         rw [List.getD_eq_getElem?_getD,List.getElem?_set_self (by rw [HL.out.len];exact hkM)]
         rfl
        rw [e9] at s2
        exact s2
    have hkk:Keep (fun b=>b=g9) wr ((wr.setCell ⟨g9,k*2,none⟩ (.int .i64 (row:Int))).setCell ⟨g9,k*2+1,none⟩ (.int .i64 (pos:Int))):=((Keep.refl (fun b=>b=g9) wr).setCell (p:=⟨g9,k*2,none⟩) (.inl rfl) _).setCell (p:=⟨g9,k*2+1,none⟩) (.inl rfl) _
    have hsz7:((wr.setCell ⟨g9,k*2,none⟩ (.int .i64 (row:Int))).setCell ⟨g9,k*2+1,none⟩ (.int .i64 (pos:Int))).heap.size=wr.heap.size:=by simp [World.setCell]
    rw [←hsz7]
    clear x0 x1 y0 y1 d1 d2 fp
    generalize (wr.setCell ⟨g9,k*2,none⟩ (.int .i64 (row:Int))).setCell ⟨g9,k*2+1,none⟩ (.int .i64 (pos:Int))=w7 at hvl7 hkk hsz7⊢
    have hn9':∀b t cs,t≠159→Bk wr b t cs→¬(b=g9):=fun b t cs ht hb e=>by
        subst e
        exact ht (bk_inj hb Hb9.out).1
    have hgp7:=hkk.bk HL.out.blk (hn9' _ _ _ (by decide) HL.out.blk)
    have hvo7:=own_same (w':=w7) HL.out.ord fun b cs _ hb=>hkk.bk hb (hn9' _ _ _ (by decide) hb)
    have har7:=HL.out.ar.keep hkk fun b t cs ht hb _=>hn9' b t cs (fun e=>by subst e;revert ht;decide) hb
    have hkF7:Keep F w2 w7:=HL.out.keep.trans' hkk fun b hb f=>by
        have f':b=g9:=f
        rcases HL.out.fl b (by rw [f'];rfl) with g | g
        · exact g
        · omega
    have hb78:Below w7.heap.size w7 (w7.alloc (.cells #[.int .i64 (k:Int)] 3)):=(Below.refl _ _).alloc (Nat.le_refl _) _
    have hgx8:=Bk.new w7 3 #[.int .i64 (k:Int)]
    have hvo8:=own_below hvo7 hb78
    have hvl8:=own_below hvl7 hb78
    have hgp8:=hgp7.below hb78 hgp7.lt
    have har8:=har7.keep (G:=fun _=>False) (Keep.of_below hb78) fun _ _ _ _ _ _ f=>f
    have hkF8:Keep F w2 (w7.alloc (.cells #[.int .i64 (k:Int)] 3)):=hkF7.alloc _
    obtain ⟨g7,hg7⟩:∃g,w7.heap.size=g:=⟨_,rfl⟩
    rw [hg7] at hgx8
    rw [hg7]
    have hvolt:∀b,vo.ownBlock=some b→b < w7.heap.size:=fun b hb=>(hvo7.lt b hb).2
    rw [Hn.out,Hvo2.out] at hvo8
    have hw78:wr.heap.size≤(w7.alloc (.cells #[.int .i64 (k:Int)] 3)).heap.size:=by simp;omega
    have Hw78:=lhd hw78
    clear hw78
    generalize w7.alloc (.cells #[.int .i64 (k:Int)] 3)=w8 at Hw78 hgx8 hvo8 hvl8 hgp8 har8 hkF8⊢
    have hins:=InsertAny_any 0 Ao n co i ks g7 k w8 hvo8 hgx8 (fun b hb e=>by have:=hvolt b (by rw [Hvo2.out];exact hb);omega) (Nat.zero_le _) hile (by omega)
    unfold InsPost at hins
    refine hins.mono ?_
    clear hins
    rintro e w9 ⟨A',c',rfl,hown9,hk9,hat9⟩
    rw [←Hvo2.out] at hk9 hat9 hvo8
    have hv9:∀b t cs,t≠3→Bk w8 b t cs→¬(vo.ownBlock=some b):=fun b t cs ht hb e=>by
        obtain ⟨cs',hc⟩:=own_ty hvo8 e
        exact ht (bk_inj hb hc).1
    have hgp9:=hk9.bk hgp8 (hv9 _ _ _ (by decide) hgp8)
    have hvl9:=own_same (w':=w9) hvl8 fun b cs _ hb=>hk9.bk hb (hv9 _ _ _ (by decide) hb)
    have hvoaf:∀b,vo.ownBlock=some b→¬(Gw (AF ga vt vf) w2.heap.size b∧b < w3.heap.size):=fun b hb f=>by
        rcases f.1 with f | f
        · exact H2.out.ord_af hb f
        · have:=(H2.out.at_.orow.lt b hb).2
          omega
    have har9:=har8.keep hk9 fun b t cs _ _ f e=>hvoaf b e f
    have hkF9:Keep F w2 w9:=hkF8.trans' hk9 fun b _ f=>H2.out.fo b f
    have d2:w9.cell? ⟨gp,2,none⟩=some vo:=(hgp9.cell 2).trans rfl
    rw [Hvo2.out] at d2
    have f2:=hgp9.frozen 2
    have hgp9l:=hgp9.lt
    have Hgp9:=lhd hgp9
    have Hvl9:=lhd hvl9
    have Har9:=lhd har9
    have HkF9:=lhd hkF9
    have Hown9:=lhd hown9
    have Hat9:=lhd hat9
    have Hk8:=lhd hkF8
    clear hgp9 hvl9 har9 hkF9 hown9 hat9 hkF8 hk9 hvo8 hvl8 hgp8 har8 hgx8 hb78 hkF7 har7 hvo7 hgp7 hkk hvl7 hsz7 hg7 hvolt hv9 hn9'
    go_wp2_with fail
    go_ret
    have hset:Keep (fun b=>b=gp) w9 (w9.setCell ⟨gp,2,none⟩ (.slice A' (n+1) c')):=Keep.setCell (F:=fun b=>b=gp) (Keep.refl _ _) (p:=⟨gp,2,none⟩) (.inl rfl) _
    have hfar:∀b t cs,t≠157→Bk w9 b t cs→¬(b=gp):=fun b t cs ht hb e=>by
        subst e
        exact ht (bk_inj hb Hgp9.out).1
    have hs2:=Hb2.out.size
    have hw28:=Hk8.out.size
    have hw78:=Hw78.out
    have hM9:M≤1000:=by
        rcases Hcase.out with c | c
        · have:=HN.out;omega
        · have:=HN.out;have:=Hn.out;omega
    have hmono:∀b,Gw F w2.heap.size b→Gw F w.heap.size b:=fun b f=>by
        rcases f with f | f
        · exact .inl f
        · exact .inr (by omega)
    have L:=HL.out
    obtain ⟨vt',vf',hX,hpr,hsr⟩:=PermX.stow (w:=w) (w':=w9.setCell ⟨gp,2,none⟩ (.slice A' (n+1) c')) (F:=Gw F w.heap.size) (gp:=gp) (ga:=ga) (R:=R) (P:=P) (k:=k) (row:=row) (pos:=pos) (i:=i) (n0:=0) (vl':=.slice (some ⟨g9,0,none⟩) M c9) (vo':=.slice A' (n+1) c') (ks:=ks) (C:=C) (C9:=C9) (tk:=tk3) (fr:=fr3) (AFF:=fun b=>Gw (AF ga vt vf) w2.heap.size b∧b < w3.heap.size)
        H2.out.at_.lt H2.out.nd Hnk.out (by rw [L.len];exact hkM) (by rw [L.len];exact L.lo) (by rw [L.len];exact hM9) (by
         rw [L.len]
         rcases Hcase.out with c | c
         · have:=L.lo;have:=L.hi;omega
         · have:=L.lo;have:=L.hi;omega) L.get Hs.out Hi.out.symm Hnr.out (Hgp9.out.set 2 _)
        (by rw [L.len];exact own_same Hvl9.out fun b cs _ hb=>hset.bk hb (hfar _ _ _ (by decide) hb))
        (by rw [Hn.out];exact own_same Hown9.out fun b cs _ hb=>hset.bk hb (hfar _ _ _ (by decide) hb))
        (Har9.out.keep hset fun b t cs ht hb _=>hfar b t cs (fun e=>by subst e;revert ht;decide) hb)
        (fun b f=>by
         rcases f.1 with g | g
         · exact .inl (H2.out.af g)
         · exact .inr (by omega))
        (.inl H2.out.fa) (.inl H2.out.fp) (fun b hb=>hmono b (L.fl b hb))
        (fun b hb=>by
         rcases Hat9.out with e |⟨g,e,e'⟩
         · exact .inl (H2.out.fo b (by rw [←e];exact hb))
         · rw [e] at hb
           injection hb with hb
           subst hb
           exact .inr (by omega))
        (fun b hb f=>by
         rcases Hat9.out with e |⟨g,e,e'⟩
         · exact hvoaf b (by rw [←e];exact hb) f
         · rw [e] at hb
           injection hb with hb
           subst hb
           have h1:=f.2
           have h2:=L.k3
           omega)
        Htk3.out Hfn3.out Hfk3.out
    refine ⟨rfl,⟨_,?_,⟨ga,_,_,vt',vf',_,_,tk3,fr3,hX,rfl⟩,List.pairwise_map.2 hsr,fun x hx=>?_⟩,(Keep.of_below Hb2.out).trans (Keep.setCell (F:=F) HkF9.out (p:=⟨gp,2,none⟩) (.inl H2.out.fp) _)⟩
    · rw [hpr]
      exact insN_perm _ _ _
    · rw [hpr] at hx
      rcases List.mem_cons.1 ((insN_perm _ _ _).subset hx) with rfl | hx
      · exact ⟨hrow,hpos⟩
      · obtain ⟨y,hy,rfl⟩:=List.mem_map.1 hx
        exact Hbd.out y hy
theorem PermE.inj {w:World} {F:Nat→Prop} {gp R P:Nat} {pr:List (Nat×Nat)} (h:PermE w F gp R P pr) {x y:Nat×Nat} (hx:x∈pr) (hy:y∈pr) (e:x.1=y.1):x=y:=by
 obtain ⟨i,hi,rfl⟩:=List.getElem_of_mem hx
 obtain ⟨j,hj,rfl⟩:=List.getElem_of_mem hy
 rcases Nat.lt_trichotomy i j with h1 | h1 | h1
 · have:=List.pairwise_iff_getElem.1 h.2.1 i j hi hj h1
   omega
 · subst h1
   rfl
 · have:=List.pairwise_iff_getElem.1 h.2.1 j i hj hi h1
   omega
end Go.Proofs.YtipaccakmndkgaaGreatDoor
