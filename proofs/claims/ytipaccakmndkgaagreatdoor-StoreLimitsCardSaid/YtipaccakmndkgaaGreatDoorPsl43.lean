/- Plain laws: where a letter stands behind an insert; what an edit leaves of a slice that a call made. No conditions. A store (StAt), what its steps leave (LFS); the walks of its has, and of edit where it refuses. Conditions: a text of at most 127 bytes. -/
import Derived.Test.YtipaccakmndkgaaGreatDoorPsl36
import Derived.Test.YtipaccakmndkgaaGreatDoorPsl41
import Derived.Test.YtipaccakmndkgaaGreatDoorPsl42
import Derived.Test.YtipaccakmndkgaaGreatDoorPsl3
set_option linter.unusedVariables false
set_option linter.unusedSimpArgs false
set_option maxRecDepth 100000
set_option maxHeartbeats 1000000
namespace Go.Proofs.YtipaccakmndkgaaGreatDoor
open Go.RowKit
theorem Made.lf {w w':World} {B0 B:Nat} {own own':Nat→Nat} {e:TypeId} {sz n c:Nat} {A:Option Addr} {xs:List Value} (h:Made w B e sz A n c xs) (k:LF B0 w w' own own') (h1:e≠226) (h2:e≠174) (hB:∀b,B≤b→own b=0):Made w' B e sz A n c xs:=by
 have h3:w'.ownsRow B e sz (.slice A n c) n xs:=by
  refine ⟨h.own.1,?_⟩
  rcases h.own.2 with q |⟨g,cap,cur,q1,q2,q3,q4⟩
  · exact .inl q
  · exact .inr ⟨g,cap,cur,q1,q2,k.vis.bk q3 h1 h2 (fun f=>f (hB g q2)),q4⟩
 exact ⟨h3,Rd.of_own h3,h.cap,h.max⟩
theorem rd_bkw {w:World} {g:Nat} {t:TypeId} {cs:Array Value} {n:Nat} (h:Bk w g t cs) (hs:cs.size=n):Rd w w.heap.size 1 (some ⟨g,0,none⟩) n cs.toList:=by
 refine ⟨by simp [hs],fun _=>⟨_,0,rfl,h.lt,fun j u hu=>?_⟩⟩
 rw [Nat.zero_add,h.cell]
 simpa using hu
structure StAt (w:World) (B:Nat) (own:Nat→Nat) (gs gl most rate:Nat) (t:List UInt8):Prop where
 blk:Bk w gs 137 #[.pointer (some ⟨gl,0,none⟩),.int .i64 (most:Int)]
 low:B≤gs
 col:own gs=0
 live:LiveE w B own gl t rate
 n127:t.length≤127
 len:t.length≤most
 max:most≤2147483648
 r1:1≤rate
 r2:rate≤64
section
variable {w w' : World} {B gs gl most rate : Nat} {own own' : Nat → Nat} {t : List UInt8}
theorem StAt.tp (h:StAt w B own gs gl most rate t):TpAt w B gl t rate:=h.live.tp h.n127
theorem StAt.vb (h:StAt w B own gs gl most rate t) (k:Vis w w'):StAt w' B own gs gl most rate t:=
 ⟨k.bk h.blk (by decide) (by decide),h.low,h.col,h.live.vis k,h.n127,h.len,h.max,h.r1,h.r2⟩
theorem StAt.size (h:StAt w B own gs gl most rate t):B≤w.heap.size:=by have:=h.low;have:=h.blk.lt;omega
theorem StAt.fresh (h:StAt w B own gs gl most rate t) {b:Nat} (hb:w.heap.size≤b):own b=0:=Nat.eq_zero_of_not_pos fun c=>by have:=(h.live.bnd b (by omega)).2;omega
theorem StAt.llen {N:Nat} (h:StAt w B own gs gl most rate t) (hN:t.length=N):Calls Tryz.prog 54 #[.pointer (some ⟨gl,0,none⟩)] w fun e w'=>e=.returned (.int .i64 (N:Int))∧w=w':=by
 obtain ⟨rs,gk,gp,pr,hs,hl,hrt,hz0,hn127⟩:=h.tp
 exact LiveLen_any B gl _ N w hl.lvw (by rw [lastL_len,hs.len,symL_len,hN]) (by omega)
end
structure LFS (B gs:Nat) (w w':World) (own own':Nat→Nat):Prop where
 old:∀b,b < w.heap.size→own' b≠0→own b≠0
 vis:VisF (fun b=>own b≠0∨b=gs) w w'
 keep:Keep (fun b=>B≤b) w w'
section
variable {B gs : Nat} {w w1 w' : World} {own own1 own' : Nat → Nat}
theorem LFS.refl (B gs:Nat) (w:World) (own:Nat→Nat):LFS B gs w w own own:=⟨fun _ _ h=>h,VisF.of_vis (Vis.refl w),Keep.refl _ _⟩
theorem LFS.size (h:LFS B gs w w' own own'):w.heap.size≤w'.heap.size:=h.keep.size
theorem LFS.trans (h:LFS B gs w w1 own own1) (k:LFS B gs w1 w' own1 own'):LFS B gs w w' own own':=by
 have hs:=h.keep.size
 refine ⟨fun b hb f=>h.old b hb (k.old b (by omega) f),h.vis.trans' k.vis fun b hb f=>?_,h.keep.trans k.keep⟩
 rcases f with f | f
 · exact .inl (h.old b hb f)
 · exact .inr f
theorem LFS.of_lf (gs:Nat) (k:LF B w w' own own'):LFS B gs w w' own own':=⟨fun b hb f=>by rw [←k.old b hb];exact f,k.vis.mono fun b _ f=>.inl f,k.keep⟩
theorem LFS.of_vb (gs:Nat) (own:Nat→Nat) (k:VB B w w'):LFS B gs w w' own own:=⟨fun _ _ h=>h,VisF.of_vis k.1,k.2⟩
theorem LFS.of_below (B gs:Nat) (own:Nat→Nat) (k:Below w.heap.size w w'):LFS B gs w w' own own:=LFS.of_vb gs own (VisK.of_below k)
theorem LFS.below (k:LFS B gs w w' own own') (hB:B≤w.heap.size):Below B w w':=k.keep.to_below hB fun b hb f=>by have f':B≤b:=f;omega
theorem LFS.zero (k:LFS B gs w w' own own') {b:Nat} (hb:b < w.heap.size) (h0:own b=0):own' b=0:=by
 by_cases c:own' b=0
 · exact c
 · exact absurd h0 (k.old b hb c)
theorem LFS.bk (k:LFS B gs w w' own own') {b:Nat} {t:TypeId} {cs:Array Value} (h:Bk w b t cs) (h0:own b=0) (hg:b≠gs) (h1:t≠226) (h2:t≠174):Bk w' b t cs:=
 k.vis.bk h h1 h2 fun f=>f.elim (fun f=>f h0) hg
structure Ap (own:Nat→Nat) (gs b:Nat):Prop where
 col:own b=0
 ne:b≠gs
theorem Ap.step {b:Nat} (h:Ap own gs b) (k:LFS B gs w w' own own') (hb:b < w.heap.size):Ap own' gs b:=⟨k.zero hb h.col,h.ne⟩
def MadeZ (w:World) (own:Nat→Nat) (gs:Nat) (e:TypeId) (A:Option Addr) (n c:Nat) (xs:List Value):Prop:=Made w 0 e 1 A n c xs∧∀a,A=some a→a.block < w.heap.size∧Ap own gs a.block
theorem MadeZ.step {e:TypeId} {A:Option Addr} {n c:Nat} {xs:List Value} (h:MadeZ w own gs e A n c xs) (k:LFS B gs w w' own own') (h1:e≠226) (h2:e≠174):MadeZ w' own' gs e A n c xs:=by
 have h3:w'.ownsRow 0 e 1 (.slice A n c) n xs:=own_same h.1.own fun b cs hb hbk=>by
  rcases A with _ | a
  · cases hb
  · have e1:a.block=b:=by simpa [Value.ownBlock] using hb
    have:=(h.2 a rfl).2
    rw [e1] at this
    exact k.bk hbk this.col this.ne h1 h2
 refine ⟨⟨h3,Rd.of_own h3,h.1.cap,h.1.max⟩,fun a ha=>?_⟩
 have:=h.2 a ha
 exact ⟨Nat.lt_of_lt_of_le this.1 k.size,this.2.step k this.1⟩
def ArgZ (w:World) (B:Nat) (own:Nat→Nat) (gs:Nat) (A:Option Addr) (n:Nat) (D:List UInt8):Prop:=
 Rd w w.heap.size 1 A n (D.map bv)∧(0 < n→∀a,A=some a→a.block < B∨(Ap own gs a.block∧∃cs fr,w.heap[a.block]?=some (.cells cs 5 fr)))
theorem VisF.same {F:Nat→Prop} {b:Nat} {cs:Array Value} {t:TypeId} {fr:Nat×Nat} (k:VisF F w w') (h:w.heap[b]?=some (.cells cs t fr)) (hn:¬F b) (h1:t≠226) (h2:t≠174):w'.heap[b]?=w.heap[b]?:=by
 rcases k.block b (lt_of_block h) hn with e |⟨cs',v,e1,e2⟩|⟨cs',v,e1,e2⟩
 · exact e
 · exfalso
   unfold Bk at e1
   rw [h] at e1
   injection e1 with e1
   injection e1 with _ e1
   exact h1 e1
 · exfalso
   unfold Bk at e1
   rw [h] at e1
   injection e1 with e1
   injection e1 with _ e1
   exact h2 e1
theorem ArgZ.step {A:Option Addr} {n:Nat} {D:List UInt8} (h:ArgZ w B own gs A n D) (k:LFS B gs w w' own own'):ArgZ w' B own' gs A n D:=by
 have hs:=k.size
 rcases Nat.eq_zero_or_pos n with h0 | h0
 · subst h0
   have:D= []:=by simpa using h.1.1
   subst this
   exact ⟨Rd.nil _ _ _ _,fun hh=>absurd hh (by omega)⟩
 · obtain ⟨b,off,rfl,hb,hc⟩:=h.1.2 h0
   have hsame:w'.heap[b]?=w.heap[b]?:=by
    rcases h.2 h0 _ rfl with q |⟨q,cs,fr,e⟩
    · exact k.keep.block b hb (by have q':b < B:=q;omega)
    · exact k.vis.same e (fun f=>f.elim (fun f=>f q.col) q.ne) (by decide) (by decide)
   refine ⟨⟨h.1.1,fun _=>⟨b,off,rfl,by omega,fun j u hu=>by rw [←hc j u hu];exact World.cell?_of_block hsame⟩⟩,fun _ a ha=>?_⟩
   injection ha with ha
   subst ha
   rcases h.2 h0 _ rfl with q |⟨q,cs,fr,e⟩
   · exact .inl q
   · exact .inr ⟨q.step k hb,cs,fr,hsame.trans e⟩
theorem ArgZ.old {B0:Nat} {A:Option Addr} {n:Nat} {D:List UInt8} (h:Rd w B0 1 A n (D.map bv)) (hB0:B0≤B) (hB:B≤w.heap.size):ArgZ w B own gs A n D:=
 ⟨h.mono (by omega),fun h0 a ha=>by
  obtain ⟨b,off,e,hb,_⟩:=h.2 h0
  rw [e] at ha
  injection ha with ha
  subst ha
  exact .inl (by show b < B;omega)⟩
theorem ArgZ.made {A:Option Addr} {n c:Nat} {D:List UInt8} (h:MadeZ w own gs 5 A n c (D.map bv)):ArgZ w B own gs A n D:=
 ⟨h.1.rd,fun h0 a ha=>by
   have h1:=(h.2 a ha).2
   obtain ⟨g,cap,cur,e1,_,e2,_⟩:=h.1.own.2.resolve_left (fun q=>by
     have:=q.1
     injection this with q1
     rw [q1] at ha
     cases ha)
   injection e1 with e1
   rw [e1] at ha
   injection ha with ha
   subst ha
   exact .inr ⟨h1,cur,_,e2⟩⟩
theorem ArgZ.vis {A:Option Addr} {n:Nat} {D:List UInt8} (h:ArgZ w B own gs A n D) (k:Below w.heap.size w w'):ArgZ w' B own gs A n D:=h.step (LFS.of_below B gs own k)
theorem StAt.far {gl most rate:Nat} {t:List UInt8} {H:Nat→Prop} (h:StAt w B own gs gl most rate t) (k:Keep H w w') (hH:∀b,H b→Ap own gs b):StAt w' B own gs gl most rate t:=
 ⟨k.bk h.blk fun f=>(hH _ f).ne rfl,h.low,h.col,h.live.far0 k fun b f=>(hH b f).col,h.n127,h.len,h.max,h.r1,h.r2⟩
def Two (own1:Nat→Nat) (gs1:Nat) (own2:Nat→Nat) (gs2:Nat):Prop:=∀b,own1 b≠0∨b=gs1→Ap own2 gs2 b
end
theorem StAt.other {w w':World} {B B1 gs1 gs2 gl2 most2 rate2:Nat} {own1 own1' own2:Nat→Nat} {t2:List UInt8} (h:StAt w B own2 gs2 gl2 most2 rate2 t2) (k:LFS B1 gs1 w w' own1 own1') (ht:Two own1 gs1 own2 gs2):StAt w' B own2 gs2 gl2 most2 rate2 t2∧Two own1' gs1 own2 gs2:=by
 refine ⟨⟨k.vis.bk h.blk (by decide) (by decide) fun f=>(ht _ f).ne rfl,h.low,h.col,h.live.visF k.vis fun b f=>(ht b f).col,h.n127,h.len,h.max,h.r1,h.r2⟩,fun b hb=>?_⟩
 rcases hb with hb | hb
 · by_cases c:b < w.heap.size
   · exact ht b (.inl (k.old b c hb))
   · exact ⟨h.fresh (by omega),by have:=h.blk.lt;omega⟩
 · exact ht b (.inr hb)
theorem Two.symm {own1 own2:Nat→Nat} {gs1 gs2:Nat} (h:Two own1 gs1 own2 gs2) (h1:own1 gs1=0) (h2:own2 gs2=0):Two own2 gs2 own1 gs1:=fun b hb=>by
 refine ⟨?_,fun e=>?_⟩
 · by_cases c:own1 b=0
   · exact c
   · have:=h b (.inl c)
     rcases hb with hb | hb
     · exact absurd this.col hb
     · exact absurd hb this.ne
 · have:=h b (.inr e)
   rcases hb with hb | hb
   · exact hb this.col
   · exact this.ne hb
theorem StHas_any (B:Nat) (own:Nat→Nat) (gs gl most rate N:Nat) (t:List UInt8) (p n:Int) (w:World) (h:StAt w B own gs gl most rate t) (hN:t.length=N):
 Calls Tryz.prog 169 #[.pointer (some ⟨gs,0,none⟩),.int .i64 p,.int .i64 n] w fun e w'=>e=.returned (.bool (hasB N p n))∧w=w':=by
 have hll:=h.llen hN
 have hN127:N≤127:=by have:=h.n127;omega
 have c0:=h.blk.cell 0
 have HL:=lhd hll
 clear hll h
 unfold hasB
 by_cases h1:0≤p
 · by_cases h2:0≤n
   · by_cases h3:p≤(N:Int)
     · have e1:IntKind.i64.wrap ((N:Int) - p)=(N:Int) - p:=by rw [IntKind.wrap_i64];omega
       have d1:decide (0≤p)=true:=decide_eq_true h1
       have d2:decide (0≤n)=true:=decide_eq_true h2
       have d3:decide (p≤(N:Int))=true:=decide_eq_true h3
       go_enter Tryz.func169,Tryz.ntmps169
       go_wp2_with fail
       refine HL.out.mono ?_
       rintro e w1 ⟨rfl,rfl⟩
       go_wp2_with fail
       refine HL.out.mono ?_
       rintro e w1 ⟨rfl,rfl⟩
       go_wp2_with fail
       go_ret
       refine ⟨?_,rfl⟩
       first | rfl |(show Ending.returned (Value.bool (decide (n≤(N:Int) - p)))=_;congr 2;exact decide_eq_decide.2 (by omega))
     · have d1:decide (0≤p)=true:=decide_eq_true h1
       have d2:decide (0≤n)=true:=decide_eq_true h2
       have d3:decide (p≤(N:Int))=false:=decide_eq_false h3
       go_enter Tryz.func169,Tryz.ntmps169
       go_wp2_with fail
       refine HL.out.mono ?_
       rintro e w1 ⟨rfl,rfl⟩
       go_wp2_with fail
       go_ret
       refine ⟨?_,rfl⟩
       show Ending.returned (Value.bool false)=_
       rw [decide_eq_false (by omega)]
   · have d1:decide (0≤p)=true:=decide_eq_true h1
     have d2:decide (0≤n)=false:=decide_eq_false h2
     go_enter Tryz.func169,Tryz.ntmps169
     go_wp2_with fail
     go_ret
     exact ⟨rfl,rfl⟩
 · have d1:decide (0≤p)=false:=decide_eq_false h1
   go_enter Tryz.func169,Tryz.ntmps169
   go_wp2_with fail
   go_ret
   exact ⟨rfl,rfl⟩
def stEditN (kind n:Int) (m:Nat):Int:=if kind=1 then 0 else if kind=3 then (m:Int) else n
theorem StEditNo_any (B:Nat) (own:Nat→Nat) (gs gl most rate N:Nat) (t:List UInt8) (kind p n:Int) (A:Option Addr) (m c:Nat) (w:World) (h:StAt w B own gs gl most rate t) (hN:t.length=N) (hno:hasB N p (stEditN kind n m)=false):
 Calls Tryz.prog 99 #[.pointer (some ⟨gs,0,none⟩),.agg #[.int .i64 kind,.int .i64 p,.int .i64 n,.slice A m c]] w fun e w'=>e=.returned (.int .i64 2)∧Below w.heap.size w w':=by
 have hb:Below w.heap.size w (w.alloc (.cells #[.int .i64 kind,.int .i64 p,.int .i64 n,.slice A m c] 57)):=(Below.refl _ _).alloc (Nat.le_refl _) _
 have hh:=fun q=>StHas_any B own gs gl most rate N t p q _ (h.vb (Vis.of_below hb)) hN
 have Hb:=lhd hb
 have hbk:=Bk.new w 57 #[.int .i64 kind,.int .i64 p,.int .i64 n,.slice A m c]
 have c0:=hbk.cell 0
 have c1:=hbk.cell 1
 have c2:=hbk.cell 2
 have c3:=hbk.cell 3
 have HH:=lhd hh
 clear h hb hbk hh
 unfold stEditN at hno
 by_cases h1:kind=1
 · subst h1
   rw [if_pos rfl] at hno
   have Hno:=lhd hno
   clear hno
   go_enter Tryz.func99,Tryz.ntmps99
   go_wp2_with fail
   refine (HH.out 0).mono ?_
   rintro e w1 ⟨rfl,rfl⟩
   rw [Hno.out]
   go_wp2_with fail
   go_ret
   exact ⟨rfl,Hb.out⟩
 · rw [if_neg h1] at hno
   by_cases h3:kind=3
   · subst h3
     rw [if_pos rfl] at hno
     have Hno:=lhd hno
     clear hno
     go_enter Tryz.func99,Tryz.ntmps99
     go_wp2_with fail
     refine (HH.out (m:Int)).mono ?_
     rintro e w1 ⟨rfl,rfl⟩
     rw [Hno.out]
     go_wp2_with fail
     go_ret
     exact ⟨rfl,Hb.out⟩
   · rw [if_neg h3] at hno
     have Hno:=lhd hno
     have b1:(kind==1)=false:=beq_eq_false_iff_ne.2 h1
     have b3:(kind==3)=false:=beq_eq_false_iff_ne.2 h3
     clear hno
     go_enter Tryz.func99,Tryz.ntmps99
     go_wp2_with fail
     refine (HH.out n).mono ?_
     rintro e w1 ⟨rfl,rfl⟩
     rw [Hno.out]
     go_wp2_with fail
     go_ret
     exact ⟨rfl,Hb.out⟩
end Go.Proofs.YtipaccakmndkgaaGreatDoor
