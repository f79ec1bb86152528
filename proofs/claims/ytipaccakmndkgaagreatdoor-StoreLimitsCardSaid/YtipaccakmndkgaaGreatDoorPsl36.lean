/- snap.Save where it refuses. No conditions. The places of a pattern are where it stands (plain). No conditions. Places of a pattern: they rise, the pattern stands at each, there are as many as are counted (plain Lean). No conditions. The walks of the reference's less, before, begins and In (scrimshawref6). Conditions: places within the text; at most 1000 rows. A text under an edit (LiveM) and what an edit leaves (LF); the walks of live's to, ahead, in, out, beside, asks. Conditions: at most 128 rows. -/
import Derived.Test.YtipaccakmndkgaaGreatDoorPsl34
import Derived.Test.YtipaccakmndkgaaGreatDoorPsl2
import Derived.Test.YtipaccakmndkgaaGreatDoorPsl22
import Derived.Test.YtipaccakmndkgaaGreatDoorPsl35
import Derived.BigQuiet
import Derived.Test.YtipaccakmndkgaaGreatDoorPsl28
import Derived.Test.YtipaccakmndkgaaGreatDoorPsl30
set_option linter.unusedVariables false
set_option linter.unusedSimpArgs false
set_option maxRecDepth 100000
set_option maxHeartbeats 2000000
namespace Go.Proofs.YtipaccakmndkgaaGreatDoor
open Go.RowKit
theorem prefix_get (q s:List UInt8):q.isPrefixOf s=true↔∀(i:Nat) (c:UInt8),q[i]?=some c→s[i]?=some c:=by
 rw [List.isPrefixOf_iff_prefix]
 constructor
 · rintro ⟨r,rfl⟩ i c h
   rw [List.getElem?_append_left (by obtain ⟨h1,_⟩:=List.getElem?_eq_some_iff.1 h;exact h1)]
   exact h
 · intro h
   induction q generalizing s with
   | nil=>exact List.nil_prefix
   | cons a q ih=>
     cases s with
     | nil=>exact absurd (h 0 a rfl) (by simp)
     | cons b s=>
       have h0:=h 0 a rfl
       simp at h0
       subst h0
       obtain ⟨r,hr⟩:=ih s fun i c hc=>by simpa using h (i+1) c (by simpa using hc)
       exact ⟨r,by rw [List.cons_append,hr]⟩
theorem preQ_prefix (t q:List UInt8) (p:Nat):preQ (symL t) (symB q) p=q.isPrefixOf (t.drop p):=by
 rw [Bool.eq_iff_iff,preQ_bytes,prefix_get]
 constructor
 · intro h i c hc
   rw [List.getElem?_drop]
   exact h i c hc
 · intro h i c hc
   have:=h i c hc
   rw [List.getElem?_drop] at this
   exact this
theorem findTo_far (t q:List UInt8):∀k,t.length+1 - q.length≤k→k≤t.length+1→findTo t q k=findB t q:=by
 intro k hk
 induction k with
 | zero=>
   intro _
   have:t.length+1 - q.length=0:=by omega
   rw [findB,this]
 | succ k ih=>
   intro h1
   rcases Nat.eq_or_lt_of_le hk with e | e
   · rw [findB,e]
   · rw [findTo_no,ih (by omega) (by omega)]
     cases hp:q.isPrefixOf (t.drop k) with
     | false=>rfl
     | true=>
       exfalso
       have:=(List.isPrefixOf_iff_prefix.1 hp).length_le
       rw [List.length_drop] at this
       omega
theorem placesT_find (t q:List UInt8):placesT t q=findB t q:=by
 rw [←findTo_far t q (t.length+1) (by omega) (Nat.le_refl _)]
 unfold placesT findTo
 congr 1
 funext i
 exact preQ_prefix t q i
theorem ba_size (l:List UInt8):(⟨l.toArray⟩:ByteArray).size=l.length:=by simp [ByteArray.size]
theorem str_at {t:List UInt8} {a:Nat} {c:UInt8} (h:t[a]?=some c):∀W,(Instr.index 9 (.string ⟨t.toArray⟩) (.int .i64 (a:Int))).run Tryz.prog W=.ok (.int .u8 (c.toNat:Int)) W:=fun W=>by
 obtain ⟨h1,h2⟩:=List.getElem?_eq_some_iff.1 h
 rw [run_str_idx (P:=Tryz.prog) 9 Tryz.underlying9 ⟨t.toArray⟩ a (by rw [ba_size];exact h1) W]
 congr 4
theorem sufLt_bytes {t:List UInt8} {a b:Nat} {c d:UInt8} (ha:t[a]?=some c) (hb:t[b]?=some d):sufLt (symL t) a b↔c.toNat < d.toNat∨(c.toNat=d.toNat∧sufLt (symL t) (a+1) (b+1)):=by
 rw [sufLt_step,aN_symL t ha,aN_symL t hb]
 constructor
 · rintro (h |⟨h1,h2⟩)
   · exact .inl (by omega)
   · exact .inr ⟨by omega,h2⟩
 · rintro (h |⟨h1,h2⟩)
   · exact .inl (by omega)
   · exact .inr ⟨by omega,h2⟩
theorem sufLt_endl {t:List UInt8} {b:Nat} (hb:b < t.length):sufLt (symL t) t.length b:=by
 rw [sufLt_step,aN_end,aN_symL t (List.getElem?_eq_getElem hb)]
 exact .inl (by omega)
theorem sufLt_endr {t:List UInt8} {a:Nat} (ha:a < t.length):¬sufLt (symL t) a t.length:=by
 rw [sufLt_step,aN_end,aN_symL t (List.getElem?_eq_getElem ha)]
 rintro (h |⟨h,_⟩)
 · omega
 · omega
def LessPost (t:List UInt8) (a b:Nat) (w:World) (e:Ending) (w':World):Prop:=∃r:Bool,e=.returned (.bool r)∧(r=true↔sufLt (symL t) a b)∧∃q,w'=w.drewN q
theorem less_any (t:List UInt8) (a b n:Nat) (w:World) (hn:t.length=n) (hn4:n≤1000) (ha:a≤n) (hb:b≤n) (hab:a≠b):
 Calls Tryz.prog 154 #[.string ⟨t.toArray⟩,.int .i64 (a:Int),.int .i64 (b:Int)] w (LessPost t a b w):=by
 have z1:(⟨t.toArray⟩:ByteArray).size=n:=(ba_size t).trans hn
 have Hn:=lhd hn
 clear hn
 go_enter Tryz.func154,Tryz.ntmps154
 go_wp2_with fail
 go_loopw [1,2] (fun x y wr=>∃a' b' q:Nat,a'≤n∧b'≤n∧a'≠b'∧x=.int .i64 (a':Int)∧y=.int .i64 (b':Int)∧(sufLt (symL t) a b↔sufLt (symL t) a' b')∧wr=w.drewN q) (fun x _ _=>n -(intOf x).toNat)
 case atStart=>exact ⟨a,b,0,ha,hb,hab,rfl,rfl,Iff.rfl,rfl⟩
 case round=>
  obtain ⟨a',b',q,ha',hb',hne,rfl,rfl,hiff,rfl⟩:=hrel
  have Hiff:=lhd hiff
  clear hiff
  by_cases hlt:a' < n∧b' < n
  · obtain ⟨h1,h2⟩:=hlt
    have ga:t[a']?=some (t[a']'(by rw [Hn.out];exact h1)):=List.getElem?_eq_getElem _
    have gb:t[b']?=some (t[b']'(by rw [Hn.out];exact h2)):=List.getElem?_eq_getElem _
    generalize t[a']'(by rw [Hn.out];exact h1)=c at ga
    generalize t[b']'(by rw [Hn.out];exact h2)=d at gb
    have hs:=sufLt_bytes ga gb
    have ia:=str_at ga
    have ib:=str_at gb
    have Hs:=lhd hs
    have h1I:(a':Int) < (n:Int):=by omega
    have h2I:(b':Int) < (n:Int):=by omega
    clear hs ga gb
    by_cases hcd:c.toNat=d.toNat
    · have hcI:(c.toNat:Int)=(d.toNat:Int):=by omega
      rw [hcI] at ia
      have hab':sufLt (symL t) a b↔sufLt (symL t) (a'+1) (b'+1):=by
       rw [Hiff.out,Hs.out]
       constructor
       · rintro (h | h)
         · omega
         · exact h.2
       · exact fun h=>.inr ⟨hcd,h⟩
      have Hab':=lhd hab'
      clear hcI hab' hcd
      go_wp2_with fail
      go_quiet (fail)
      go_wp2_with fail
      go_roundw
      case rel=>exact ⟨a'+1,b'+1,_,by omega,by omega,by omega,by go_num,by go_num,Hab'.out,rfl⟩
      case measure=>simp [intOf];omega
    · have hcI:¬(c.toNat:Int)=(d.toNat:Int):=by omega
      have hr:decide (c.toNat < d.toNat)=true↔sufLt (symL t) a b:=by
       rw [Hiff.out,Hs.out,decide_eq_true_eq]
       constructor
       · exact fun h=>.inl h
       · rintro (h | h)
         · exact h
         · exact absurd h.1 hcd
      have Hr:=lhd hr
      clear hr hcd
      go_wp2_with fail
      go_quiet (fail)
      go_wp2_with fail
      go_quiet (fail)
      go_wp2_with fail
      go_ret
      exact ⟨decide (c.toNat < d.toNat),ret_bool (by simp),Hr.out,_,by rw [World.drewN_drewN,World.drewN_drewN]⟩
  · have hr:decide ((b':Int) < (a':Int))=true↔sufLt (symL t) a b:=by
        rw [Hiff.out,decide_eq_true_eq]
        by_cases h1:a' < n
        · obtain rfl:b'=n:=by
           have:¬b' < n:=fun h=>hlt ⟨h1,h⟩
           omega
          constructor
          · intro h;omega
          · intro h
            have h3:=sufLt_endr (t:=t) (a:=a') (by rw [Hn.out];exact h1)
            rw [Hn.out] at h3
            exact absurd h h3
        · obtain rfl:a'=n:=by omega
          have h3:=sufLt_endl (t:=t) (b:=b') (by rw [Hn.out];omega)
          rw [Hn.out] at h3
          exact ⟨fun _=>h3,fun _=>by omega⟩
    have Hr:=lhd hr
    clear hr
    by_cases h1:a' < n
    · have h1I:(a':Int) < (n:Int):=by omega
      have h2I:¬(b':Int) < (n:Int):=by
       have:¬b' < n:=fun h=>hlt ⟨h1,h⟩
       omega
      clear hlt
      go_wp2_with fail
      go_ret
      exact ⟨decide ((b':Int) < (a':Int)),ret_bool (by simp),Hr.out,q,rfl⟩
    · have h1I:¬(a':Int) < (n:Int):=by omega
      clear hlt
      go_wp2_with fail
      go_ret
      exact ⟨decide ((b':Int) < (a':Int)),ret_bool (by simp),Hr.out,q,rfl⟩
end Go.Proofs.YtipaccakmndkgaaGreatDoor
namespace Go.Proofs.YtipaccakmndkgaaGreatDoor
open Go.RowKit Go.Shelf
theorem VisF.mono {F G:Nat→Prop} {w w':World} (h:VisF F w w') (hf:∀b,b < w.heap.size→F b→G b):VisF G w w':=⟨h.os,h.tape,h.output,h.size,fun b hb hn=>h.block b hb fun f=>hn (hf b hb f)⟩
theorem VisF.trans' {F G:Nat→Prop} {w w1 w':World} (h:VisF F w w1) (k:VisF G w1 w') (hg:∀b,b < w.heap.size→G b→F b):VisF F w w':=by
 have h2:=VisF.trans (F:=fun b=>F b∨w.heap.size≤b) (h.mono fun b _ f=>.inl f) (k.mono fun b _ g=>by
  by_cases c:b < w.heap.size
  · exact .inl (hg b c g)
  · exact .inr (by omega))
 exact h2.mono fun b hb f=>f.elim id fun e=>by omega
structure LF (B:Nat) (w w':World) (own own':Nat→Nat):Prop where
 old:∀b,b < w.heap.size→own' b=own b
 vis:VisF (fun b=>own b≠0) w w'
 keep:Keep (fun b=>B≤b) w w'
theorem LF.refl (B:Nat) (w:World) (own:Nat→Nat):LF B w w own own:=⟨fun _ _=>rfl,VisF.of_vis (Vis.refl w),Keep.refl _ _⟩
theorem LF.trans {B:Nat} {w w1 w':World} {own own1 own':Nat→Nat} (h:LF B w w1 own own1) (k:LF B w1 w' own1 own'):LF B w w' own own':=by
 have hs:=h.keep.size
 refine ⟨fun b hb=>(k.old b (by omega)).trans (h.old b hb),h.vis.trans' k.vis fun b hb f=>?_,h.keep.trans k.keep⟩
 rw [←h.old b hb]
 exact f
theorem LF.of_vb {B:Nat} {w w':World} {own:Nat→Nat} (k:VB B w w'):LF B w w' own own:=⟨fun _ _=>rfl,VisF.of_vis k.1,k.2⟩
structure LiveM (w:World) (B:Nat) (own:Nat→Nat) (gl gk gp rate:Nat) (mv:Int) (R P:Nat) (L T:List Nat) (pr:List (Nat×Nat)):Prop where
 blk:Bk w gl 87 #[.pointer (some ⟨gk,0,none⟩),.pointer (some ⟨gp,0,none⟩),.int .i64 (rate:Int),.int .i64 mv]
 col:own gl=3
 walk:WalkE w B own gk L T
 perm:PermE w (fun b=>own b=1) gp R P pr
section
variable {w w' : World} {B : Nat} {own own' : Nat → Nat} {gl gk gp rate : Nat} {mv : Int} {R P R' P' : Nat} {L T L' T' : List Nat} {pr pr' : List (Nat × Nat)}
theorem LiveM.bnd (h:LiveM w B own gl gk gp rate mv R P L T pr):∀b,own b≠0→B≤b∧b < w.heap.size:=h.walk.bnd
theorem LiveM.lo (h:LiveM w B own gl gk gp rate mv R P L T pr):B≤gl:=(h.bnd gl (by rw [h.col];decide)).1
theorem LiveM.gw (h:LiveM w B own gl gk gp rate mv R P L T pr):∃gv gt,Bk w gk 99 #[.pointer (some ⟨gv,0,none⟩),.pointer (some ⟨gt,0,none⟩)]∧WaveAt w B gv L:=by
 obtain ⟨gv,gt,h1,_,h2,_⟩:=h.walk
 exact ⟨gv,gt,h1,h2.at⟩
theorem LiveM.vis (h:LiveM w B own gl gk gp rate mv R P L T pr) (k:Vis w w'):LiveM w' B own gl gk gp rate mv R P L T pr:=
 ⟨k.bk h.blk (by decide) (by decide),h.col,h.walk.vis k,h.perm.vis k⟩
theorem LiveM.walkOp (h:LiveM w B own gl gk gp rate mv R P L T pr) (hw:WalkE w' B own' gk L' T') (g:Grew w w' own own'):LiveM w' B own' gl gk gp rate mv R P L' T' pr∧LF B w w' own own':=by
 have hb:=h.bnd
 refine ⟨⟨g.keep.bk h.blk (fun f=>by have:=h.col;omega),by rw [g.old _ h.blk.lt];exact h.col,hw,(h.perm.keep g.keep fun b f=>by omega).mono fun b _ f=>?_⟩,g.old,VisF.of_keep (g.keep.mono fun b _ f=>by omega),g.keep.mono fun b _ f=>(hb b (by omega)).1⟩
 rw [g.old b (hb b (by omega)).2]
 exact f
theorem LiveM.permOp (h:LiveM w B own gl gk gp rate mv R P L T pr) (hp:PermE w' (Gw (fun b=>own b=1) w.heap.size) gp R' P' pr') (k:Keep (fun b=>own b=1) w w'):LiveM w' B (recol own w.heap.size w'.heap.size 1) gl gk gp rate mv R' P' L T pr'∧LF B w w' own (recol own w.heap.size w'.heap.size 1):=by
 have hb:=h.bnd
 have hold:∀b,b < w.heap.size→recol own w.heap.size w'.heap.size 1 b=own b:=fun b hlt=>by unfold recol;rw [if_pos hlt]
 have hB:B≤w.heap.size:=by have:=h.lo;have:=h.blk.lt;omega
 have hsz:=k.size
 refine ⟨⟨k.bk h.blk (fun f=>by have:=h.col;omega),by rw [hold _ h.blk.lt];exact h.col,(h.walk.far k fun b f=>⟨by omega,by omega⟩).paint (fun b hlt h2=>?_) (fun b hne=>?_),hp.mono fun b hlt f=>?_⟩,hold,VisF.of_keep (k.mono fun b _ f=>by omega),k.mono fun b _ f=>(hb b (by omega)).1⟩
 · by_cases c:b < w.heap.size
   · exact hold b c
   · have:=(hb b (by omega)).2
     omega
 · unfold recol at hne
   by_cases c:b < w.heap.size
   · rw [if_pos c] at hne
     have:=hb b hne
     exact ⟨this.1,by omega⟩
   · rw [if_neg c] at hne
     by_cases c2:b < w'.heap.size
     · exact ⟨by omega,c2⟩
     · rw [if_neg c2] at hne
       exact absurd rfl hne
 · rcases f with f | f
   · rw [hold b (hb b (by omega)).2]
     exact f
   · unfold recol
     rw [if_neg (by omega),if_pos hlt]
theorem LiveM.setMv (h:LiveM w B own gl gk gp rate mv R P L T pr) (mv':Int):LiveM (w.setCell ⟨gl,3,none⟩ (.int .i64 mv')) B own gl gk gp rate mv' R P L T pr∧LF B w (w.setCell ⟨gl,3,none⟩ (.int .i64 mv')) own own:=by
 have k:Keep (fun b=>b=gl) w (w.setCell ⟨gl,3,none⟩ (.int .i64 mv')):=Keep.setCell (F:=fun b=>b=gl) (Keep.refl _ _) (p:=⟨gl,3,none⟩) (.inl rfl) _
 have hc:=h.col
 refine ⟨⟨h.blk.set 3 _,h.col,h.walk.far k fun b f=>?_,h.perm.keep k fun b f e=>?_⟩,fun _ _=>rfl,VisF.of_keep (k.mono fun b _ f=>?_),k.mono fun b _ f=>?_⟩
 · have e:b=gl:=f
   subst e
   exact ⟨by omega,by omega⟩
 · have e':b=gl:=e
   subst e'
   omega
 · have e':b=gl:=f
   subst e'
   show own b≠0
   omega
 · have e':b=gl:=f
   subst e'
   exact h.lo
theorem LiveM.len (h:LiveM w B own gl gk gp rate mv R P L T pr):LvW w B gl L∨¬T.Perm L:=by
 by_cases c:T.Perm L
 · exact .inl ⟨gk,_,_,_,h.blk,h.walk.at c⟩
 · exact .inr c
theorem LiveM.permR (h:LiveM w B own gl gk gp rate mv R P L T pr):PermR w gp R P pr:=by
 obtain ⟨⟨ga,vl,vo,vt,vf,ks,C,tk,fr,hx,e⟩,hs,hb⟩:=h.perm
 rw [e] at hs
 have hs0:=List.pairwise_map.1 hs
 have hkl:=ks_len hx.nd hx.at_.lt
 exact ⟨0,ga,vl,vo,vt,vf,ks,C,tk,fr,hx.at_,hs0,hx.sz,by have:=hx.sz;omega,e⟩
theorem LiveM.g (h:LiveM w B own gl gk gp rate mv R R L T pr) (hT:T.Perm L):LiveG w B gl gk gp rate R L pr:=⟨⟨mv,h.blk⟩,h.walk.at hT,h.permR⟩
end
section
variable {w : World} {B : Nat} {own : Nat → Nat} {gl gk gp rate : Nat} {mv : Int} {R P : Nat} {L T : List Nat} {pr : List (Nat × Nat)}
theorem LTo_any (i s:Nat) (h:LiveM w B own gl gk gp rate mv R P L T pr) (his:L[i]?=some s) (hL:∀x∈L,x < 257) (hl:L.length≤1000) (hT:T.length≤1000):
 Calls Tryz.prog 60 #[.pointer (some ⟨gl,0,none⟩),.int .i64 (i:Int)] w fun e w'=>e=.returned (.int .i64 ((narT L T s i:Nat):Int))∧VB B w w':=by
 have hb:=WalkBackT_any B gk L T i s w h.walk.atT his hL hl hT
 have c0:=h.blk.cell 0
 obtain ⟨r,hr⟩:∃r,narT L T s i=r:=⟨_,rfl⟩
 rw [hr] at hb⊢
 clear h his hL hr
 go_enter Tryz.func60,Tryz.ntmps60
 go_wp2_with fail
 refine hb.mono ?_
 rintro e w' ⟨rfl,hv⟩
 have Hv:=lhd hv
 clear hb hv
 go_wp2_with fail
 go_ret
 exact ⟨rfl,Hv.out⟩
theorem LAhead0_any (i:Nat) (w:World) (gl:Nat):
 Calls Tryz.prog 58 #[.pointer (some ⟨gl,0,none⟩),.int .i64 0,.int .i64 (i:Int)] w fun e w'=>e=.returned (.int .i64 (-1))∧w=w':=by
 go_enter Tryz.func58,Tryz.ntmps58
 go_wp2_with fail
 go_ret
 exact ⟨rfl,rfl⟩
theorem LAhead_any (at_ i s:Nat) (h:LiveM w B own gl gk gp rate mv R P L T pr) (ha:0 < at_) (his:L[i]?=some s) (hL:∀x∈L,x < 257) (hl:L.length≤1000) (hT:T.length≤1000):
 Calls Tryz.prog 58 #[.pointer (some ⟨gl,0,none⟩),.int .i64 (at_:Int),.int .i64 (i:Int)] w fun e w'=>e=.returned (.int .i64 ((narT L T s i:Nat):Int))∧VB B w w':=by
 have hb:=WalkBackT_any B gk L T i s w h.walk.atT his hL hl hT
 have c0:=h.blk.cell 0
 have ha0:((at_:Int)==0)=false:=by rw [beq_eq_false_iff_ne];omega
 obtain ⟨r,hr⟩:∃r,narT L T s i=r:=⟨_,rfl⟩
 rw [hr] at hb⊢
 clear h his hL hr
 go_enter Tryz.func58,Tryz.ntmps58
 go_wp2_with fail
 refine hb.mono ?_
 rintro e w' ⟨rfl,hv⟩
 have Hv:=lhd hv
 clear hb hv
 go_wp2_with fail
 go_ret
 exact ⟨rfl,Hv.out⟩
end
def inI (r c:Int):Int:=if r≥c then r+1 else r
def outI (r g:Int):Int:=if r > g then r - 1 else r
theorem inI_nat (r c:Nat):inI (r:Int) (c:Int)=((inR r c:Nat):Int):=by
 unfold inI inR
 split <;> split <;> omega
theorem outI_nat (r g:Nat):outI (r:Int) (g:Int)=((outR r g:Nat):Int):=by
 unfold outI outR
 split <;> split <;> omega
theorem inI_neg (c:Nat):inI (-1) (c:Int)=-1:=by unfold inI;rw [if_neg (by omega)]
theorem In_any2 (r c:Int) (w:World) (hr:-1000000≤r∧r≤1000000):
 Calls Tryz.prog 66 #[.int .i64 r,.int .i64 c] w fun e w'=>e=.returned (.int .i64 (inI r c))∧w=w':=by
 unfold inI
 by_cases h:r≥c
 · rw [if_pos h]
   have e1:wrap64 (r+1)=r+1:=wrap64_id (by omega) (by omega)
   go_enter Tryz.func66,Tryz.ntmps66
   go_wp2_with fail
   go_ret
   exact ⟨rfl,rfl⟩
 · rw [if_neg h]
   go_enter Tryz.func66,Tryz.ntmps66
   go_wp2_with fail
   go_ret
   exact ⟨rfl,rfl⟩
theorem Out_any2 (r c:Int) (w:World) (hr:-1000000≤r∧r≤1000000):
 Calls Tryz.prog 72 #[.int .i64 r,.int .i64 c] w fun e w'=>e=.returned (.int .i64 (outI r c))∧w=w':=by
 unfold outI
 by_cases h:r > c
 · rw [if_pos h]
   have e1:IntKind.i64.wrap (r - 1)=r - 1:=by rw [IntKind.wrap_i64];omega
   go_enter Tryz.func72,Tryz.ntmps72
   go_wp2_with fail
   go_ret
   exact ⟨rfl,rfl⟩
 · rw [if_neg h]
   go_enter Tryz.func72,Tryz.ntmps72
   go_wp2_with fail
   go_ret
   exact ⟨rfl,rfl⟩
theorem Beside_any (n cur a:Nat) (w:World) (hn:0 < n∨¬cur < a) (hb:n≤1000000):
 Calls Tryz.prog 140 #[.int .i64 (n:Int),.int .i64 (cur:Int),.int .i64 (a:Int)] w fun e w'=>e=.returned (.int .i64 ((besN n cur a:Nat):Int))∧w=w':=by
 unfold besN
 by_cases h:cur < a
 · obtain ⟨m,hm⟩:∃m,n=m+1:=⟨n - 1,by omega⟩
   subst hm
   have h1:(cur:Int) < (a:Int):=by omega
   have e0:IntKind.i64.wrap (((m+1:Nat):Int) - 1)=(m:Int):=by rw [IntKind.wrap_i64];omega
   obtain ⟨n,hn2⟩:∃n,m+1=n:=⟨_,rfl⟩
   rw [hn2] at e0⊢
   have hm2:(if cur < a then n - 1 else n)=m:=by rw [if_pos h];omega
   simp only [hm2]
   by_cases h2:a≤m
   · have h3:(m:Int)≥(a:Int):=by omega
     have e1:wrap64 ((m:Int)+1)=((m+1:Nat):Int):=by rw [wrap64_id (by omega) (by omega)];rfl
     rw [if_pos h2]
     clear hm2 hn2
     go_enter Tryz.func140,Tryz.ntmps140
     go_wp2_with fail
     go_ret
     exact ⟨rfl,rfl⟩
   · have h3:¬(m:Int)≥(a:Int):=by omega
     rw [if_neg h2]
     clear hm2 hn2
     go_enter Tryz.func140,Tryz.ntmps140
     go_wp2_with fail
     go_ret
     exact ⟨rfl,rfl⟩
 · have h1:¬(cur:Int) < (a:Int):=by omega
   have hm2:(if cur < a then n - 1 else n)=n:=by rw [if_neg h]
   simp only [hm2]
   by_cases h2:a≤n
   · have h3:(n:Int)≥(a:Int):=by omega
     have e1:wrap64 ((n:Int)+1)=((n+1:Nat):Int):=by rw [wrap64_id (by omega) (by omega)];rfl
     rw [if_pos h2]
     clear hm2
     go_enter Tryz.func140,Tryz.ntmps140
     go_wp2_with fail
     go_ret
     exact ⟨rfl,rfl⟩
   · have h3:¬(n:Int)≥(a:Int):=by omega
     rw [if_neg h2]
     clear hm2
     go_enter Tryz.func140,Tryz.ntmps140
     go_wp2_with fail
     go_ret
     exact ⟨rfl,rfl⟩
theorem Asks_ok (gl:Nat) (a b c:Value) (mv at_ last:Int) (w:World) (h:Bk w gl 87 #[a,b,c,.int .i64 mv]) (h0:0≤at_) (h1:at_≤last):
 Calls Tryz.prog 53 #[.pointer (some ⟨gl,0,none⟩),.int .i64 at_,.int .i64 last] w fun e w'=>e=.returned (.int .i64 0)∧w'=w.setCell ⟨gl,3,none⟩ (.int .i64 0):=by
 have c3:w.cell? ⟨gl,3,none⟩=some (.int .i64 mv):=(h.cell 3).trans rfl
 have f3:=h.frozen 3
 have n0:decide (at_ < 0)=false:=decide_eq_false (by omega)
 have n1:¬at_ > last:=by omega
 have n2:¬last < at_:=by omega
 clear h
 go_enter Tryz.func53,Tryz.ntmps53
 go_wp2_with fail
 go_ret
 exact ⟨rfl,rfl⟩
end Go.Proofs.YtipaccakmndkgaaGreatDoor
