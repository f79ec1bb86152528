/- Lemmas of the walk. Conditions: each its own. -/
import Derived.Test.YthldmddkfbijhaaGreatDoorPsr29
import Derived.Test.YthldmddkfbijhaaGreatDoorPsr40
import Derived.Test.YthldmddkfbijhaaGreatDoorProg
import Derived.Test.YthldmddkfbijhaaGreatDoorSht
import Derived.Test.YthldmddkfbijhaaGreatDoorShl
import Derived.Test.YthldmddkfbijhaaGreatDoorShi
import Derived.Test.YthldmddkfbijhaaGreatDoorShs
set_option linter.all false
set_option maxRecDepth 100000
set_option maxHeartbeats 8000000
namespace Go.Proofs.YthldmddkfbijhaaGreatDoor
section
open Go.RowKit Go
section
variable {P : Program} {ops : Array Oper} {Q : Exit -> Act -> World -> Prop} {md : Region.Mode}
theorem eO {C:World->Prop} {S:Nat->World->World->Prop} {U:Nat->World->Prop} {V:Nat->Value->World->Prop} {a0:Act} {j g d:Nat} {b:Bool} {o:Oper} (ho:ops[j]?=some o) (hg:o.guard=some (g,b))
 (hgd:((ops[g]?).bind (·.dst))=some d) (hga:o.after.toList.any (fun e=>Region.binds md e&&e.on==g)=true)
 (hv:∀v w,C w->V g v w->v=.bool b)
 (h:∀ev:Operand->Value,∀w,C w->U j w->(∀v,ev (.const v)=v)->(∀f,ev (.func f)=.func (.func f) #[] #[])->(∀t,rH md ops j t=true->ev (.tmp t)=a0.eval (.tmp t))->
  (∀i d,o.after.toList.any (fun e=>Region.binds md e&&e.on==i)=true->((ops[i]?).bind (·.dst))=some d->V i (ev (.tmp d)) w)->
  ∀a K,a.eval=ev->(∀v w',S j w w'->V j v w'->K (a.put o.dst v) w')->Oper.upon P o a K Q ((execOp ev o).run P w)):dH P ops Q md C S U V a0 j o:=by
 intro a w hS hU hsz hdf hold hval K hK;have hval':∀i d,o.after.toList.any (fun e=>Region.binds md e&&e.on==i)=true->((ops[i]?).bind (·.dst))=some d->V i (a.eval (.tmp d)) w:=by
  intro i d hi hd;obtain ⟨e,he,h2⟩:=List.any_eq_true.1 hi;simp only [zBd,zCq] at h2;obtain ⟨h3,rfl⟩:=h2;cases hp:ops[e.on]? with
  | none=>rw [hp] at hd;cases hd
  | some p=>rw [hp] at hd;exact hval e (Array.mem_toList_iff.1 he) h3 p d hp hd
 have hb:=hv _ _ hS (hval' g d hga hgd);unfold wpOp;simp only [ho];have hw:Region.wanted o (yielded ops a.tmps)=true:=by
  unfold Region.wanted;rw [hg];have:yielded ops a.tmps g=some b:=by
   unfold yielded;rw [hgd];change a.tmps.getD d undef=.bool b at hb;rw [zAm] at hb;rw [Option.bind_some];cases ht:a.tmps[d]? with
   | none=>rw [ht] at hb;cases hb
   | some u=>rw [ht] at hb;simp only [Option.getD_some] at hb;rw [hb]
  simp only [this,beq_self_eq_true]
 rw [zBx hw];exact .inl (h a.eval w hS hU (fun _=>rfl) (fun _=>rfl) (fun t ht=>hold t ht) hval' a K rfl hK)
end
end
section
open Go.RowKit
section
variable {w w' : World} {B gs gl most rate : Nat} {own own' : Nat -> Nat} {t : List UInt8}
end
section
variable {B gs : Nat} {w w1 w' : World} {own own1 own' : Nat -> Nat}
end
theorem Two.step2 {w w':World} {B B1 gs1 gs2 gl1 most1 rate1:Nat} {own1 own2 own2':Nat->Nat} {t1:List UInt8} (ht:Two own1 gs1 own2 gs2) (h:StAt w B own1 gs1 gl1 most1 rate1 t1) (k:LFS B1 gs2 w w' own2 own2'):Two own1 gs1 own2' gs2:=fun b hb=>by
 have hlt:b < w.heap.size:=by rcases hb with hb | hb;exact (h.live.bnd b hb).2;rw [hb];exact h.blk.lt
 exact (ht b hb).step k hlt
section
variable {P : Program} {ops : Array Oper} {Q : Exit -> Act -> World -> Prop} {md : Region.Mode}
theorem aAu {f:Nat} {listed:Array Bool} {a:Act} {w:World} {i j:Nat} (hr:Region.ready md ops listed= [i,j]) (h1:wpOp P ops Q i (wpAny P md ops Q f (listed.setIfInBounds i true)) a w) (h2:wpOp P ops Q j (wpAny P md ops Q f (listed.setIfInBounds j true)) a w):wpAny P md ops Q (f+1) listed a w:=
 ⟨fun h=>(by rw [hr] at h;cases h),fun k hk=>by
  rw [hr] at hk;rcases List.mem_cons.1 hk with rfl | hk;exact h1
  · cases List.mem_singleton.1 hk;exact h2⟩
theorem cG {j:Nat} {o:Oper} {a:Act} {w:World} {K:Act->World->Prop} (ho:ops[j]?=some o) (hw:Region.wanted o (yielded ops a.tmps)=true) (h:Oper.upon P o a K Q ((execOp a.eval o).run P w)):wpOp P ops Q j K a w:=by
 unfold wpOp;simp only [ho];rw [zBx hw];exact .inl h
theorem fH {j:Nat} {o:Oper} {a:Act} {w:World} {K:Act->World->Prop} (ho:ops[j]?=some o) (hw:Region.wanted o (yielded ops a.tmps)=false) (h:K (a.put o.dst undef) w):wpOp P ops Q j K a w:=by
 unfold wpOp;simp only [ho];rw [zBw (by rw [hw];decide)];exact h
end
section
variable {w w' : World} {B gs gs1 gs2 gl1 gl2 most rate : Nat} {own own' own1 own2 own2' : Nat -> Nat} {T T2 : List UInt8} {r : Told} {v : Value}
def DoS (B gs:Nat) (own:Nat->Nat) (most rate:Nat) (T2:List UInt8) (w w':World):Prop:=∃own' gl',StAt w' B own' gs gl' most rate T2/\LFS B gs w w' own own'
def ResD (w:World) (own:Nat->Nat) (gs:Nat) (r:Told) (v:Value):Prop:=∃A1 c1 A2 c2,v=.agg (lF r A1 c1 A2 c2)/\MadeZ w own gs 5 A1 r.data.length c1 (r.data.map bv)/\MadeZ w own gs 3 A2 r.places.length c2 (r.places.map nv)
theorem MadeZ.stepC {e:TypeId} {A:Option Addr} {n c:Nat} {xs:List Value} (h:MadeZ w own gs e A n c xs) (k:LFS B gs w w' own own') (h1:e≠202) (h2:e≠154):MadeZ w' own gs e A n c xs:=⟨(h.step k h1 h2).1,fun a ha=>⟨zAl (h.2 a ha).1 k.size,(h.2 a ha).2⟩⟩
theorem ResD.step (h:ResD w own gs r v) (k:LFS B gs w w' own own'):ResD w' own gs r v:=by
 obtain ⟨A1,c1,A2,c2,rfl,h1,h2⟩:=h;exact ⟨A1,c1,A2,c2,rfl,h1.stepC k dC dC,h2.stepC k dC dC⟩
theorem ResD.below (h:ResD w own gs r v) (k:Below w.heap.size w w'):ResD w' own gs r v:=h.step (LFS.of_below 0 gs own k)
def OneDone (w:World) (B gs1 gs2:Nat) (own2:Nat->Nat) (most rate:Nat) (T2:List UInt8) (r:Told) (v:Value):Prop:=∃own1' gl1',StAt w B own1' gs1 gl1' most rate T2/\Two own1' gs1 own2 gs2/\ResD w own2 gs2 r v
def BothDone (w:World) (B gs1 gs2 most rate:Nat) (T2:List UInt8) (r:Told) (v:Value):Prop:=∃own1' gl1' own2' gl2',StAt w B own1' gs1 gl1' most rate T2/\StAt w B own2' gs2 gl2' most rate T2/\Two own1' gs1 own2' gs2/\∃A1 c1 A2 c2,v=.agg (lF r A1 c1 A2 c2)/\Made w 0 5 1 A1 r.data.length c1 (r.data.map bv)/\Made w 0 3 1 A2 r.places.length c2 (r.places.map nv)
theorem OneDone.stepB (h:OneDone w B gs1 gs2 own2 most rate T2 r v) (c2:own2 gs2=0) (k:LFS B gs2 w w' own2 own2'):OneDone w' B gs1 gs2 own2 most rate T2 r v:=by
 obtain ⟨own1',gl1',h1,h2,h3⟩:=h;exact ⟨own1',gl1',(h1.other k (h2.symm h1.col c2)).1,h2,h3.step k⟩
theorem OneDone.below (h:OneDone w B gs1 gs2 own2 most rate T2 r v) (k:Below w.heap.size w w'):OneDone w' B gs1 gs2 own2 most rate T2 r v:=by
 obtain ⟨own1',gl1',h1,h2,h3⟩:=h;exact ⟨own1',gl1',h1.vb (Vis.of_below k),h2,h3.below k⟩
theorem BothDone.below (h:BothDone w B gs1 gs2 most rate T2 r v) (k:Below w.heap.size w w'):BothDone w' B gs1 gs2 most rate T2 r v:=by
 obtain ⟨own1',gl1',own2',gl2',h1,h2,h3,A1,c1,A2,c2,rfl,h4,h5⟩:=h;exact ⟨own1',gl1',own2',gl2',h1.vb (Vis.of_below k),h2.vb (Vis.of_below k),h3,A1,c1,A2,c2,rfl,h4.below k,h5.below k⟩
theorem aEq (h2:StAt w B own2 gs2 gl2 most rate T) (ht:Two own1 gs1 own2 gs2) (hd:StDone w B own1 gs1 most rate T2 r (.returned v) w'):OneDone w' B gs1 gs2 own2 most rate T2 r v/\DoS B gs1 own1 most rate T2 w w':=by
 obtain ⟨A1,c1,A2,c2,own1',gl1',he,h3,h4,h5,h6,_,_⟩:=hd;injection he with he;have hg:=h2.blk.lt;have hz:∀ {e:TypeId} {A:Option Addr} {n c:Nat} {xs:List Value},Made w' w.heap.size e 1 A n c xs->MadeZ w' own2 gs2 e A n c xs:=fun h=>⟨⟨bF h.own (zAp _),h.rd,h.cap,h.max⟩,fun a ha=>by
  subst ha;have h7:=h.own.lt (k:=a.block) rfl;exact ⟨h7.2,h2.fresh h7.1,by omega⟩⟩
 exact ⟨⟨own1',gl1',h3,(h2.other h4 ht).2,A1,c1,A2,c2,he,hz h5,hz h6⟩,own1',gl1',h3,h4⟩
theorem aC0 {v1:Value} (h1:OneDone w B gs1 gs2 own2 most rate T2 r v1) (c2:own2 gs2=0) (hd:StDone w B own2 gs2 most rate T2 r (.returned v) w'):BothDone w' B gs1 gs2 most rate T2 r v/\DoS B gs2 own2 most rate T2 w w':=by
 obtain ⟨own1',gl1',k1,k2,k3⟩:=h1;obtain ⟨A1,c1,A2,c2',own2',gl2',he,h3,h4,h5,h6,_,_⟩:=hd;injection he with he;exact ⟨⟨own1',gl1',own2',gl2',(k1.other h4 (k2.symm k1.col c2)).1,h3,k2.step2 k1 h4,A1,c1,A2,c2',he,⟨bF h5.own (zAp _),h5.rd,h5.cap,h5.max⟩,⟨bF h6.own (zAp _),h6.rd,h6.cap,h6.max⟩⟩,own2',gl2',h3,h4⟩
def aHk (j1 j2 B gs1 gs2:Nat) (own1 own2:Nat->Nat) (most rate:Nat) (T2:List UInt8) (j:Nat) (w w':World):Prop:=(j=j1->DoS B gs1 own1 most rate T2 w w')/\(j=j2->DoS B gs2 own2 most rate T2 w w')/\(j≠j1->j≠j2->Below w.heap.size w w')
def DuoC (W0:World) (B gt:Nat) (cs:Array Value) (w:World):Prop:=Bk w gt 46 cs/\Below B W0 w/\B<=w.heap.size
def DuoU (j1 j2 B gs1 gl1 gs2 gl2:Nat) (own1 own2:Nat->Nat) (most rate:Nat) (T:List UInt8) (i:Nat) (w:World):Prop:=(i=j1->StAt w B own1 gs1 gl1 most rate T/\StAt w B own2 gs2 gl2 most rate T)/\(i=j2->StAt w B own2 gs2 gl2 most rate T)
theorem DuoC.step {W0:World} {gt j j1 j2:Nat} {cs:Array Value} (h:DuoC W0 B gt cs w) (k:aHk j1 j2 B gs1 gs2 own1 own2 most rate T2 j w w') (a1:Ap own1 gs1 gt) (a2:Ap own2 gs2 gt):DuoC W0 B gt cs w':=by
 obtain ⟨h1,h2,h3⟩:=h;by_cases c1:j=j1;obtain ⟨own',gl',_,hl⟩:=k.1 c1;exact ⟨hl.bk h1 a1.col a1.ne dC dC,h2.trans (hl.below h3),zAk h3 hl.size⟩;by_cases c2:j=j2;obtain ⟨own',gl',_,hl⟩:=k.2.1 c2;exact ⟨hl.bk h1 a2.col a2.ne dC dC,h2.trans (hl.below h3),zAk h3 hl.size⟩;have hb:=k.2.2 c1 c2;exact ⟨h1.below hb h1.lt,h2.trans (hb.mono h3),zAk h3 hb.size⟩
theorem mR (w:World) (B:Nat):Below B w w.drew:=⟨rfl,rfl,rfl,zAs _,fun _ _=>rfl⟩
theorem DuoC.drew {W0:World} {gt:Nat} {cs:Array Value} (h:DuoC W0 B gt cs w):DuoC W0 B gt cs w.drew:=⟨h.1,h.2.1.trans (mR w B),h.2.2⟩
theorem DuoU.drew {i j1 j2:Nat} (h:DuoU j1 j2 B gs1 gl1 gs2 gl2 own1 own2 most rate T i w):DuoU j1 j2 B gs1 gl1 gs2 gl2 own1 own2 most rate T i w.drew:=⟨fun e=>⟨(h.1 e).1.vb (Vis.of_below (mR _ _)),(h.1 e).2.vb (Vis.of_below (mR _ _))⟩,fun e=>(h.2 e).vb (Vis.of_below (mR _ _))⟩
theorem DuoU.step {i j j1 j2:Nat} (h:DuoU j1 j2 B gs1 gl1 gs2 gl2 own1 own2 most rate T i w) (k:aHk j1 j2 B gs1 gs2 own1 own2 most rate T2 j w w') (ht:Two own1 gs1 own2 gs2) (hij:i≠j) (hj2:j≠j2):DuoU j1 j2 B gs1 gl1 gs2 gl2 own1 own2 most rate T i w':=by
 refine ⟨fun e=>?_,fun e=>?_⟩;have hb:=k.2.2 (fun f=>hij (e.trans f.symm)) hj2;obtain ⟨h1,h2⟩:=h.1 e;exact ⟨h1.vb (Vis.of_below hb),h2.vb (Vis.of_below hb)⟩;have h2:=h.2 e;by_cases c1:j=j1;obtain ⟨own',gl',_,hl⟩:=k.1 c1;exact (h2.other hl ht).1;exact h2.vb (Vis.of_below (k.2.2 c1 hj2))
theorem eY {j j1 j2:Nat} (h1:j≠j1) (h2:j≠j2) (k:Below w.heap.size w w'):aHk j1 j2 B gs1 gs2 own1 own2 most rate T2 j w w':=⟨fun e=>absurd e h1,fun e=>absurd e h2,fun _ _=>k⟩
theorem aJ1 {j1 j2:Nat} (h:j1≠j2) (k:DoS B gs1 own1 most rate T2 w w'):aHk j1 j2 B gs1 gs2 own1 own2 most rate T2 j1 w w':=⟨fun _=>k,fun e=>absurd e h,fun e=>absurd rfl e⟩
theorem aJ0 {j1 j2:Nat} (h:j1≠j2) (k:DoS B gs2 own2 most rate T2 w w'):aHk j1 j2 B gs1 gs2 own1 own2 most rate T2 j2 w w':=⟨fun e=>absurd e.symm h,fun _=>k,fun _ e=>absurd rfl e⟩
end
def exI:Value->World->Prop:=fun v _=>∃z:Int,v=.int .i64 z
def exU:Value->World->Prop:=fun v _=>∃z:Int,v=.int .u64 z/\0<=z
def exB:Value->World->Prop:=fun v _=>∃b:Bool,v=.bool b
def pK (kind p k:Int) (A:Option Addr) (m c:Nat):Array Value:=#[.int .i64 kind,.int .i64 p,.int .i64 k,.slice A m c]
def qF (z:Int):Prop:=-9223372036854775808<=z/\z<=9223372036854775807
def aDy (w:World) (A:Option Addr) (m c:Nat) (e:Ending) (w':World):Prop:=
 ∃kind p k m',e=.returned (.agg (pK kind p k A m' c))/\m'<=m/\qF kind/\qF p/\qF k/\Below w.heap.size w w'
theorem xH {w w':World} {tmps:Array Value} {g m m' c:Nat} {kind p k:Int} {A:Option Addr} (hp:tmps.getD 6 undef=.pointer (some ⟨g,0,none⟩)) (hb:Bk w' g 46 (pK kind p k A m' c)) (hm:m'<=m) (h1:qF kind) (h2:qF p) (h3:qF k) (hk:Below w.heap.size w w'):
 bodyPost Tryz.prog Tryz.f20 (aDy w A m c) .ret ⟨tmps, []⟩ w':=
 bodyPost_ret (results_cell_row (P:=Tryz.prog) (fn:=Tryz.f20) (p:=6) (ty:=46) rfl tmps w' g 46 (pK kind p k A m' c) (0,0) _ hp hb Tryz.underlying46 rfl kR) rfl ⟨kind,p,k,m',rfl,hm,h1,h2,h3,hk⟩
theorem aJd (kind p k:Int) (A:Option Addr) (m c n i:Nat) (w:World) (hn:n<=1000000) (hi:i<=1000000) (hmc:m<=c) (hcm:c<=maxLen) (hA:0 < m->∃b off,A=some ⟨b,off,none⟩) (h1:qF kind) (h2:qF p) (h3:qF k):
 Calls Tryz.prog 20 #[.agg #[.int .i64 kind,.int .i64 p,.int .i64 k,.slice A m c],(n:Int),(i:Int)] w (aDy w A m c):=by
 obtain ⟨s,hs⟩:=eqx w.heap.size;obtain ⟨W,hW⟩:=eqx ((w.alloc (.cells #[.int .i64 kind,.int .i64 p,.int .i64 k,.slice A m c] 46)).alloc (.cells #[.int .i64 0,.int .i64 0,.int .i64 0,.slice none 0 0] 46));have hbx:Bk W s 46 (pK kind p k A m c):=by rw [<-hW,<-hs];exact (Bk.new w _ _).alloc _
 have hbr:Bk W (s+1) 46 (pK 0 0 0 none 0 0):=by rw [<-hW,<-hs];have:=Bk.new (w.alloc (.cells #[.int .i64 kind,.int .i64 p,.int .i64 k,.slice A m c] 46)) 46 (pK 0 0 0 none 0 0);rw [World.size_alloc] at this;exact this
 have hb:Below s w W:=by rw [<-hW,<-hs];exact (bR.alloc nL _).alloc (by simp) _
 have hi7:((i:Int).tmod 7)=((i % 7:Nat):Int):=rfl;obtain ⟨Hs,Hb,Hbx,Hbr,HW,H1,H2,H3⟩:=hqq8 hs hb hbx hbr hW h1 h2 h3;clear hb hbx hbr hW h1 h2 h3;go_enter Tryz.func20,Tryz.ntmps20;by_cases h6:i % 7=6
 · have g0:(((i % 7:Nat):Int)==6)=true:=(by rw [zCq];omega);clear hs;go_wp2_with fail;refine xH (g:=w.heap.size+1) rfl ?_ (zAs m) H1.out H2.out H3.out ((bR.alloc nL _).alloc (by simp) _);have:=Bk.new (w.alloc (.cells #[.int .i64 kind,.int .i64 p,.int .i64 k,.slice A m c] 46)) 46 (pK kind p k A m c);rw [World.size_alloc] at this;exact this
 · have g0:(((i % 7:Nat):Int)==6)=false:=(by rw [zCb];omega);obtain ⟨q1,hq1,hl1⟩:=vI kind 8 oM;obtain ⟨q2,hq2,hl2⟩:=vI p ((n:Int)+1) oM;obtain ⟨q3,hq3,hl3⟩:=vI k 7 oM;have e1:IntKind.i64.wrap (q1:Int)=(q1:Int):=(by rw [IntKind.wrap_i64];omega);have e2:IntKind.i64.wrap (q2:Int)=(q2:Int):=(by rw [IntKind.wrap_i64];omega);have e3:IntKind.i64.wrap (q3:Int)=(q3:Int):=(by rw [IntKind.wrap_i64];omega);have e4:IntKind.u64.wrap ((n:Int)+1)=(n:Int)+1:=(by rw [IntKind.wrap_u64];omega);have e5:¬(n:Int)+1=0:=oM;have b1:qF (wrap64 (1+(q1:Int))):=(by unfold qF wrap64;omega);have b2:qF (q2:Int):=(by unfold qF;omega);have b3:qF (q3:Int):=(by unfold qF;omega);obtain ⟨B1,B2,B3⟩:=hqq3 b1 b2 b3;clear hs hl1 hl2 hl3 b1 b2 b3;by_cases hm:6 < m
   · have g1:decide ((m:Int) > 6)=true:=zBz oM;obtain ⟨b,off,rfl⟩:=hA oM;clear hA;go_wp2_with fail;refine xH (g:=w.heap.size+1) rfl ?_ (show 6<=m by omega) B1.out B2.out B3.out ((bR.alloc nL _).alloc (by simp) _);have:=Bk.new (w.alloc (.cells #[.int .i64 (wrap64 (1+(q1:Int))),(q2:Int),(q3:Int),.slice (some ⟨b,off,none⟩) 6 c] 46)) 46 (pK (wrap64 (1+(q1:Int))) q2 q3 (some ⟨b,off,none⟩) 6 c);rw [World.size_alloc] at this;exact this
   · have g1:decide ((m:Int) > 6)=false:=zBy oM;clear hA;go_wp2_with fail;refine xH (g:=w.heap.size+1) rfl ?_ (zAs m) B1.out B2.out B3.out ((bR.alloc nL _).alloc (by simp) _);have:=Bk.new (w.alloc (.cells #[.int .i64 (wrap64 (1+(q1:Int))),(q2:Int),(q3:Int),.slice A m c] 46)) 46 (pK (wrap64 (1+(q1:Int))) q2 q3 A m c);rw [World.size_alloc] at this;exact this
theorem aKF (code num:Int) (v2 v3:Value) (w:World):(Instr.field 50 (.agg #[.int .i64 code,.int .i64 num,v2,v3]) 1).run Tryz.prog w=.ok (.int .i64 num) w:=by kernel_rfl
end
section
theorem aAG {a b:Nat} (h:a≠b):((a:Int)==(b:Int))=false:=by rw [zCb];omega
theorem aCL {L1 L2:List Nat} {k n:Nat} (h1:L1.length=n) (h2:L2.length=n) (h:L1.take k=L2.take k) (hk:n<=k):L1=L2:=by
 rw [zAg oM,zAg oM] at h;exact h
end
section
open Go.RowKit
section
variable (l : List UInt8) (w : World)
end
theorem xI (A1 A2:Option Addr) (n1 c1 n2 c2 B1 B2:Nat) (L1 L2:List Nat) (w:World) (h1:Rd w B1 1 A1 n1 (L1.map nv)) (h2:Rd w B2 1 A2 n2 (L2.map nv)) (hn:n1<=1099511627776) (hn2:n2<=1099511627776):
 Calls Tryz.prog 15 #[.slice A1 n1 c1,.slice A2 n2 c2] w fun e w'=>e=.returned (.bool (decide (L1=L2)))/\Below w.heap.size w w':=by
 have l1:L1.length=n1:=by simpa using h1.1
 have l2:L2.length=n2:=by simpa using h2.1
 obtain ⟨H1,H2,HL1,HL2⟩:=hqq4 h1 h2 l1 l2;clear h1 h2 l1 l2;by_cases hne:n1=n2
 · subst hne;go_enter Tryz.func15,Tryz.ntmps15;go_wp2;go_loopw [5] (fun i wr=>∃k:Nat,k<=n1/\i=.int .i64 k/\L1.take k=L2.take k/\∃m,wr=w.drewN m) (fun i _=>n1 -(intOf i).toNat)
   case atStart=>exact ⟨0,zAp _,rfl,rfl,0,rfl⟩
   case round=>
    obtain ⟨k,hk,rfl,hpre,mm,rfl⟩:=hrel;by_cases hlt:k < n1
    · obtain ⟨x,hx⟩:∃x,L1[k]?=some x:=⟨L1[k]'(by have:=HL1.out;omega),zAa (by have:=HL1.out;omega)⟩;obtain ⟨y,hy⟩:∃y,L2[k]?=some y:=⟨L2[k]'(by have:=HL2.out;omega),zAa (by have:=HL2.out;omega)⟩;obtain ⟨b1,o1,u1,rfl,hb1,hu1,d1⟩:=H1.out.get hlt;obtain ⟨b2,o2,u2,rfl,hb2,hu2,d2⟩:=H2.out.get hlt;rw [zAf,hx] at hu1;rw [zAf,hy] at hu2;simp only [Option.map_some,Option.some.injEq] at hu1 hu2;subst hu1;subst hu2;unfold nv iv at d1 d2;obtain ⟨Hpre,Hx,Hy⟩:=hqq3 hpre hx hy;clear hpre hx hy;by_cases hxy:x=y
      · subst hxy;go_wp2;go_quiet (fail);go_wp2;go_roundw
        case rel=>refine ⟨k+1,by omega,by go_num,?_,_,rfl⟩;rw [zAv,zAv,Hpre.out,Hx.out,Hy.out]
        case measure=>simp [intOf];omega
      · have t:=aAG hxy
        have hfin:L1≠L2:=fun h=>hxy (by
         have a:=Hx.out;rw [h,Hy.out] at a;injection a with a;exact a.symm)
        have Hfin:=lhd hfin;clear hfin;go_wp2;go_quiet (fail);go_wp2;go_ret;exact ⟨bX (by rw [zBy Hfin.out]),below_drewN (below_drewN bR _) _⟩
    · have hge:n1<=k:=oM;have hfin:=lhd (aCL HL1.out HL2.out hpre hge);clear hpre;go_wp2;go_ret;exact ⟨bX (by rw [zBz hfin.out]),below_drewN bR _⟩
 · have hfin:L1≠L2:=fun h=>hne (by rw [<-HL1.out,<-HL2.out,h]);have Hfin:=lhd hfin;have t:=aAG hne;clear hfin;go_enter Tryz.func15,Tryz.ntmps15;go_wp2;go_ret;exact ⟨bX (by rw [zBy Hfin.out]),Below.refl _ _⟩
theorem aDq (k1 k2 m1 m2:Int) (A1 A2 A3 A4:Option Addr) (n1 c1 n2 c2 n3 c3 n4 c4 B1 B2 B3 B4:Nat) (X1 X2:List UInt8) (L1 L2:List Nat) (w:World) (h1:Rd w B1 1 A1 n1 (X1.map bv)) (h2:Rd w B2 1 A2 n2 (X2.map bv)) (h3:Rd w B3 1 A3 n3 (L1.map nv)) (h4:Rd w B4 1 A4 n4 (L2.map nv))
 (b1:B1<=w.heap.size) (b2:B2<=w.heap.size) (b3:B3<=w.heap.size) (b4:B4<=w.heap.size) (hn3:n3<=1099511627776) (hn4:n4<=1099511627776):
 Calls Tryz.prog 21 #[.agg #[.int .i64 k1,.int .i64 m1,.slice A1 n1 c1,.slice A3 n3 c3],.agg #[.int .i64 k2,.int .i64 m2,.slice A2 n2 c2,.slice A4 n4 c4]] w fun e w'=>e=.returned (.bool (decide (k1=k2/\m1=m2/\X1=X2/\L1=L2)))/\Below w.heap.size w w':=by
 have hbl:∀o1 o2,Below w.heap.size w ((w.alloc o1).alloc o2):=fun o1 o2=>((Below.refl w.heap.size w).alloc nL o1).alloc (by simp) o2;obtain ⟨H1,H2,H3,H4⟩:=hqq4 (h1.mono b1) (h2.mono b2) (h3.mono b3) (h4.mono b4);clear h1 h2 h3 h4 b1 b2 b3 b4;by_cases hk:k1=k2
 · by_cases hm:m1=m2
   · by_cases hX:X1=X2
     · have t1:(k1==k2)=true:=(by rw [zCq];exact hk);have t2:(m1==m2)=true:=(by rw [zCq];exact hm);have Hfin:=lhd (And.intro hk (And.intro hm hX));clear hk hm hX;go_enter Tryz.func21,Tryz.ntmps21;have s1:=fun o1 o2=>lS (H1.out.below (hbl o1 o2));have s2:=fun o1 o2=>lS (H2.out.below (hbl o1 o2));have t3:(X1==X2)=true:=(by rw [zCq];exact Hfin.out.2.2);go_wp2_with fail;refine (xI _ _ _ _ _ _ _ _ L1 L2 _ (H3.out.below (hbl _ _)) (H4.out.below (hbl _ _)) hn3 hn4).mono ?_;rintro e w' ⟨rfl,hb'⟩;have hB:=(hbl _ _).trans (hb'.mono (hbl _ _).size);clear hb';go_wp2_with fail;go_ret;exact ⟨bX (by simp [Hfin.out.1,Hfin.out.2.1,Hfin.out.2.2]),hB⟩
     · have t1:(k1==k2)=true:=(by rw [zCq];exact hk);have t2:(m1==m2)=true:=(by rw [zCq];exact hm);have Hfin:=lhd hX;clear hk hm hX;go_enter Tryz.func21,Tryz.ntmps21;have s1:=fun o1 o2=>lS (H1.out.below (hbl o1 o2));have s2:=fun o1 o2=>lS (H2.out.below (hbl o1 o2));have t3:(X1==X2)=false:=(by rw [zCb];exact Hfin.out);go_wp2_with fail;go_ret;exact ⟨bX (by simp [Hfin.out]),hbl _ _⟩
   · have t1:(k1==k2)=true:=(by rw [zCq];exact hk);have t2:(m1==m2)=false:=(by rw [zCb];exact hm);have Hfin:=lhd hm;clear hk hm;go_enter Tryz.func21,Tryz.ntmps21;go_wp2_with fail;go_ret;exact ⟨bX (by simp [Hfin.out]),hbl _ _⟩
 · have t1:(k1==k2)=false:=(by rw [zCb];exact hk);have Hfin:=lhd hk;clear hk;go_enter Tryz.func21,Tryz.ntmps21;go_wp2_with fail;go_ret;exact ⟨bX (by simp [Hfin.out]),hbl _ _⟩
theorem aEL (T D:List UInt8) (most kind p k:Int):(doM T most kind p k D).2.places.length<=T.length+1:=by
 unfold doM;by_cases k1:kind=1
 · rw [zBx k1];split
   · simp
   · split <;> simp
 rw [zBw k1];by_cases k2:kind=2
 · rw [zBx k2];split <;> simp
 rw [zBw k2];by_cases k5:kind=5
 · rw [zBx k5];split <;> simp
 rw [zBw k5];by_cases k3:kind=3
 · rw [zBx k3];split <;> simp
 rw [zBw k3];by_cases k4:kind=4
 · rw [zBx k4];simp
 rw [zBw k4];by_cases k6:kind=6
 · rw [zBx k6];simp
 rw [zBw k6];by_cases k7:kind=7;rw [zBx k7];have:=aAK T D (T.length+1 - D.length);simp only [fM];omega;rw [zBw k7];by_cases k8:kind=8
 · rw [zBx k8];simp
 rw [zBw k8];simp
end
section
open Go.ChangeShapes Go.WideShapes Go.ChangeAt Go.RowKit Go.Deep
def iW (l:List Stp):List Value:=l.flatMap jO
theorem qT (l:List Stp):(iW l).length=l.length*4:=by
 induction l with
 | nil=>rfl
 | cons s l ih=>
   simp only [iW,List.flatMap_cons] at ih⊢;rw [zAi,ih,zCg];simp only [jO,zCg,List.length_nil];omega
theorem gU (l:List Stp) (i j:Nat) (s:Stp) (h:l[i]?=some s) (hj:j < 4):(iW l)[i*4+j]?=(jO s)[j]?:=by
 induction l generalizing i with
 | nil=>simp at h
 | cons x l ih=>
   have e:iW (x::l)=jO x++iW l:=(by simp [iW]);have hl:(jO x).length=4:=rfl;rcases i with _ | i
   · simp at h;subst h;rw [e,Nat.zero_mul,zBi,zAn oM]
   simp only [zCf] at h;rw [e,zAo oM,hl,show (i+1)*4+j - 4=i*4+j by omega];exact ih i h
theorem aGP {H:Type} {enc:TypeId×Value->H} {w:World} {a:Option Addr} {len cap:Nat} {d:DataW H} {p:List MemPlace}
 (h:DataW.Trod enc Tryz.prog w 0 (fun _=>true) true 41 (.slice a len cap) d p):
 ∃l:List Stp,Rd w w.heap.size 4 a len (iW l)/\l.length=len/\(∀s∈l,s.good w)/\len<=cap/\cap<=maxLen:=by
 obtain ⟨fuel,hf⟩:=h;rcases open_slice Tryz.underlying41 hf with ⟨hcs,_⟩|⟨x,l,c,m,n,D,Pl,hcs,_,hl,hm,hmm,_,hi⟩;simp [Value.cells] at hcs;obtain ⟨rfl,rfl,rfl⟩:=hcs;exact ⟨[],Rd.nil _ _ _ _,rfl,by simp,zAs _,zAp _⟩;simp [Value.cells] at hcs;obtain ⟨rfl,rfl,rfl⟩:=hcs;simp at hmm;subst hmm;have hC:Tryz.prog.cellsOf 46=4:=(by kernel_rfl);have key:∀i,i < len->∃s:Stp,(∀j,j < 4->w.cell? (x.add (i*4+j))=(jO s)[j]?)/\s.good w:=(by intro i hil;obtain ⟨cs',hc,ht'⟩:=hi i oM;rw [hC] at hc;obtain ⟨s,rfl,hg⟩:=wN ht';obtain ⟨_,hcl,hat⟩:=World.cells?_some hc;refine ⟨s,fun j hj=>?_,hg⟩;have:=hat j hj;rw [Go.Deep.add_add] at this;exact this);have pick:∃g:Nat->Stp,∀i,i < len->(∀j,j < 4->w.cell? (x.add (i*4+j))=(jO (g i))[j]?)/\(g i).good w:=(by refine ⟨fun q=>if hq:q < len then Classical.choose (key q hq) else ⟨0,0,0,none,0,0, []⟩,fun q hq=>?_⟩;simp only [hq,dif_pos];exact Classical.choose_spec (key q hq));obtain ⟨g,hg⟩:=pick;refine ⟨(List.range len).map g,⟨by rw [qT];simp,fun hpos=>?_⟩,by simp,?_,hl,hm⟩;have hc0:=(hg 0 hpos).1 0 oM;simp only [Nat.zero_mul,zBi] at hc0;have hc1:w.cell? (x.add 0)=some (iv (g 0).kind):=hc0.trans rfl;obtain ⟨b,off,spot⟩:=x;have hspot:spot=none:=(by simpa [Addr.add] using World.cell?_spot hc1);subst hspot;have hb:=World.block_lt_of_cell? w _ hc1;refine ⟨b,off,rfl,by simpa [Addr.add] using hb,fun j u hu=>?_⟩;have hjl:j < len*4:=(by have:=(zAc.1 hu).1;rw [qT] at this;simpa using this);have h1:j / 4 < len:=Nat.div_lt_of_lt_mul (by rw [Nat.mul_comm];exact hjl);have h2:j % 4 < 4:=Nat.mod_lt _ oM;have h3:j / 4*4+j % 4=j:=Nat.div_add_mod' j 4;have hs:((List.range len).map g)[j / 4]?=some (g (j / 4)):=(by rw [zAf,zCk h1];rfl);have h5:=gU _ (j / 4) (j % 4) _ hs h2;rw [h3,hu] at h5;have h6:=(hg (j / 4) h1).1 (j % 4) h2;rw [h3,<-h5,iS] at h6;exact h6;intro s hs;obtain ⟨q,hq,rfl⟩:=zAy.1 hs;exact (hg q (zCj.1 hq)).2
end
section
open Go.RowKit
theorem sH (A1:Option Addr) (m1 c1:Nat) (l:List Stp) (wh:Int) (w:World) (hr1:Rd w w.heap.size 4 A1 m1 (iW l)) (hl1:l.length=m1) (hg:∀s∈l,s.good w) (hmc:m1<=c1) (hcl:c1<=maxLen) (hT:TabW w):
 Calls Tryz.prog 4 #[.slice A1 m1 c1,.int .i64 wh] w fun e w'=>e=.returned (.bool true)/\Below w.heap.size w w':=by
 have hw:=hT.pos;obtain ⟨B,hB⟩:=eqx w.heap.size;have hB0:1 < B:=oM;rw [hB] at hr1;obtain ⟨HT,HB,Hr1,Hl1,Hg,Hcl,Hmc⟩:=hqq7 hT hB hr1 hl1 hg hcl hmc;clear hT hw hB hr1 hl1 hg hcl hmc;go_enter Tryz.func4,Tryz.ntmps4;go_wp2_with fail;refine (mA 60 5 w oM oM oM).mono ?_;rintro e w1 ⟨gs1,gl1,own1,rfl,hst1,hb1⟩;rw [HB.out] at hst1 hb1;obtain ⟨Hst1,Hb1⟩:=hqq2 hst1 hb1;clear hst1 hb1;go_wp2_with fail;refine (mA 60 5 w1 oM oM oM).mono ?_;rintro e w2 ⟨gs2,gl2,own2,rfl,hst2,hb2⟩;have htwo:=Two.new Hst1.out hst2;have hst12:=Hst1.out.vb (Vis.of_below hb2);obtain ⟨Hst2,Htwo,Hst12,Hb2⟩:=hqq4 (hst2.mono Hst1.out.size) htwo hst12 (Hb1.out.trans (hb2.mono Hst1.out.size));clear hst2 hb2 htwo hst12 Hst1 Hb1;by_cases h25:m1 > 25
 · have g1:decide ((m1:Int) > 25)=true:=zBz oM;have hsz2:=Hb2.out.size;go_wp2_with fail;refine (gP w2 (HT.out.below Hb2.out hB0)).mono ?_;rintro e w3 ⟨rfl,hb3⟩;have Hb3:=lhd (Hb2.out.trans (hb3.mono (by rw [<-HB.out];exact hsz2)));clear hb3;go_wp2_with fail;go_ret;exact ⟨rfl,by rw [HB.out];exact Hb3.out⟩
 have g1:decide ((m1:Int) > 25)=false:=zBy oM;go_wp2_with fail;go_loopw [9,10] (fun n i wr=>∃(k:Nat) (T:List UInt8) (own1a own1b:Nat->Nat) (gl1 gl2:Nat),k<=m1/\i=.int .i64 (k:Int)/\n=.int .i64 (T.length:Int)/\StAt wr B own1a gs1 gl1 60 5 T/\StAt wr B own1b gs2 gl2 60 5 T/\Two own1a gs1 own1b gs2/\Below B w wr) (fun _ i _=>m1 -(intOf i).toNat)
 case atStart=>exact ⟨0, [],own1,own2,gl1,gl2,zAp _,rfl,rfl,Hst12.out,Hst2.out,Htwo.out,Hb2.out⟩
 case round=>
  clear Hst2 Htwo Hst12 Hb2 g1 gl1 gl2;obtain ⟨k,T,own1a,own1b,gl1,gl2,hk,rfl,rfl,hst1,hst2,htwo,hb⟩:=hrel;have hszB:=hst1.size;have hT60:=hst1.len;obtain ⟨N,hN⟩:=eqx T.length;rw [hN] at hT60;obtain ⟨Hst1,Hst2,Htwo,Hb,HN,HszB⟩:=hqq6 hst1 hst2 htwo hb hN hszB;clear hst1 hst2 htwo hb hszB;rw [HN.out];clear hN;by_cases hlt:k < m1
  · obtain ⟨bl,ol,eA,hbl,hc⟩:=(Hr1.out.below Hb.out).2 oM;subst eA;obtain ⟨s,hsk⟩:∃s,l[k]?=some s:=⟨_,zAa (by rw [Hl1.out];exact hlt)⟩;have hgood:=Hg.out s (zAd hsk);obtain ⟨kd,pd,nd,Ad,md,cd,Dd⟩:=s;have d0:wr.cell? ⟨bl,ol+k*4,none⟩=some (.int .i64 kd):=hc (k*4+0) _ ((gU l k 0 _ hsk oM).trans rfl);have d1:wr.cell? ⟨bl,ol+k*4+1,none⟩=some (.int .i64 pd):=hc (k*4+1) _ ((gU l k 1 _ hsk oM).trans rfl);have d2:wr.cell? ⟨bl,ol+k*4+2,none⟩=some (.int .i64 nd):=hc (k*4+2) _ ((gU l k 2 _ hsk oM).trans rfl);have d3:wr.cell? ⟨bl,ol+k*4+3,none⟩=some (.slice Ad md cd):=hc (k*4+3) _ ((gU l k 3 _ hsk oM).trans rfl);obtain ⟨q1,q2,q3,hrd,hmcd,hcd⟩:=hgood;simp only at q1 q2 q3 hrd hmcd hcd;rw [HB.out] at hrd;have ik:(k:Int) < (m1:Int):=oM;obtain ⟨Hrd,Hq⟩:=hqq2 hrd (And.intro q1 (And.intro q2 q3));clear hc hsk hrd q1 q2 q3;by_cases h60:md > 60
    · have g2:decide ((md:Int) > 60)=true:=zBz oM;go_wp2_with fail;refine (gP wr (HT.out.below Hb.out hB0)).mono ?_;rintro e w3 ⟨rfl,hb3⟩;have Hb3:=lhd (Hb.out.trans (hb3.mono HszB.out));clear hb3;go_wp2_with fail;go_ret;exact ⟨rfl,by rw [HB.out];exact Hb3.out⟩
    have g2:decide ((md:Int) > 60)=false:=zBy oM;go_wp2_with fail;refine (aJd kd pd nd Ad md cd N k wr oM oM hmcd hcd (fun h0=>by obtain ⟨b,off,e,_⟩:=Hrd.out.2 h0;exact ⟨b,off,e⟩) Hq.out.1 Hq.out.2.1 Hq.out.2.2).mono ?_;rintro e w3 ⟨k2,p2,n2,m2,rfl,hm2,_,_,_,hb3⟩;unfold pK;clear d0 d1 d2 d3 g2;obtain ⟨gt,hgt⟩:∃g,w3.heap.size=g:=⟨_,rfl⟩;obtain ⟨W0,hW0⟩:∃W,w3.alloc (.cells #[.int .i64 k2,.int .i64 p2,.int .i64 n2,.slice Ad m2 cd] 46)=W:=⟨_,rfl⟩;have hbW:Below w3.heap.size w3 W0:=(by rw [<-hW0];exact bR.alloc nL _);have hbx:Bk W0 gt 46 #[.int .i64 k2,.int .i64 p2,.int .i64 n2,.slice Ad m2 cd]:=(by rw [<-hW0,<-hgt];exact Bk.new _ _ _);have hbrW:Below wr.heap.size wr W0:=hb3.trans (hbW.mono hb3.size);have hst1:=Hst1.out.vb (Vis.of_below hbrW);have hst2:=Hst2.out.vb (Vis.of_below hbrW);have hb0:=Hb.out.trans (hbrW.mono HszB.out);have hszr:wr.heap.size<=gt:=(by rw [<-hgt];exact hb3.size);have hap:Ap own1a gs1 gt/\Ap own1b gs2 gt:=⟨⟨Hst1.out.fresh hszr,by have:=Hst1.out.blk.lt;omega⟩,⟨Hst2.out.fresh hszr,by have:=Hst2.out.blk.lt;omega⟩⟩;obtain ⟨T2,r,h2⟩:∃T2 r,doM T ((60:Nat):Int) k2 p2 n2 (Dd.take m2)=(T2,r):=⟨_,_,rfl⟩;have hdl:Dd.length=md:=(by simpa using Hrd.out.1);have hT2:T2.length<=127:=(by have:=aFF T (Dd.take m2) ((60:Nat):Int) k2 p2 n2;rw [h2,zAj] at this;have e:=HN.out;simp only at this;omega);have hpl:r.places.length<=1099511627776:=(by have:=aEL T (Dd.take m2) ((60:Nat):Int) k2 p2 n2;rw [h2] at this;have e:=HN.out;simp only at this;omega);have hrd2:Rd w B 1 Ad m2 ((Dd.take m2).map bv):=(by have:=Hrd.out.cut_hi hm2;rw [zBl,<-List.map_take] at this;exact this);have harg:∀w5 own gs,Below B W0 w5->B<=w5.heap.size->ArgZ w5 B own gs Ad m2 (Dd.take m2):=fun w5 own gs k5 hs5=>ArgZ.old (hrd2.below (hb0.trans k5)) nL hs5
    have hdo1:∀w5,StAt w5 B own1a gs1 gl1 60 5 T->Below B W0 w5->Calls Tryz.prog 22 #[gs1,.agg #[.int .i64 k2,.int .i64 p2,.int .i64 n2,.slice Ad m2 cd]] w5 (StDone w5 B own1a gs1 60 5 T2 r):=fun w5 h5 k5=>
        yX B own1a gs1 gl1 60 5 T (Dd.take m2) T2 r k2 p2 n2 Ad m2 cd w5 h2 h5 (harg w5 own1a gs1 k5 h5.size) oM (HT.out.below (hb0.trans k5) hB0) hB0 hT2
    have hdo2:∀w5,StAt w5 B own1b gs2 gl2 60 5 T->Below B W0 w5->Calls Tryz.prog 22 #[gs2,.agg #[.int .i64 k2,.int .i64 p2,.int .i64 n2,.slice Ad m2 cd]] w5 (StDone w5 B own1b gs2 60 5 T2 r):=fun w5 h5 k5=>
        yX B own1b gs2 gl2 60 5 T (Dd.take m2) T2 r k2 p2 n2 Ad m2 cd w5 h2 h5 (harg w5 own1b gs2 k5 h5.size) oM (HT.out.below (hb0.trans k5) hB0) hB0 hT2
    obtain ⟨Hdo1,Hdo2,Hap,Hpl,Hcol,Hb0⟩:=hqq6 hdo1 hdo2 hap hpl Hst2.out.col hb0;have HC0:Hid (DuoC W0 B gt #[.int .i64 k2,.int .i64 p2,.int .i64 n2,.slice Ad m2 cd] W0):=lhd ⟨hbx,Below.refl _ _,hst1.size⟩;have HU0:Hid (∀i,DuoU 2 5 B gs1 gl1 gs2 gl2 own1a own1b 60 5 T i W0):=lhd fun i=>⟨fun _=>⟨hst1,hst2⟩,fun _=>hst2⟩;obtain ⟨HW0,Hgt,HT2⟩:=hqq3 hW0 hgt hT2;clear hst1 hst2 hb0 hbx hbW hbrW hap hszr hrd2 harg hdo1 hdo2 hpl hT2 h2 hdl hgt hW0 hb3 Hst1 Hst2 Hb hmcd hcd hT60;go_wp2_with fail;rw [HW0.out]
    try rw [Hgt.out]
    refine wp_region_any kR ?_;refine uC 17 [63,64,65,66,67,68,69,70,71,72,73,74,75,76,77,78,79] (DuoC W0 B gt #[.int .i64 k2,.int .i64 p2,.int .i64 n2,.slice Ad m2 cd]) (aHk 2 5 B gs1 gs2 own1a own1b 60 5 T2) (DuoU 2 5 B gs1 gl1 gs2 gl2 own1a own1b 60 5 T) (Vs [is gs1,is (.agg #[.int .i64 k2,.int .i64 p2,.int .i64 n2,.slice Ad m2 cd]),fun v w2=>OneDone w2 B gs1 gs2 own1b 60 5 T2 r v,is gs2,is (.agg #[.int .i64 k2,.int .i64 p2,.int .i64 n2,.slice Ad m2 cd]),fun v w2=>BothDone w2 B gs1 gs2 60 5 T2 r v,is (.bool true),is (.bool false),is (.bool false),is (.int .i64 wh),is (k:Int),exI,exU,exI,exI,exB,exB]) _ _ rfl dC kR kR HC0.out.drew (fun i=>(HU0.out i).drew) (fun j w1 w2 _ h k=>h.step k Hap.out.1 Hap.out.2) ?_ ?_ ?_ ?_
    · intro i j w1 w2 _ hij hup hu hC k;by_cases c2:i=2
      · subst c2;refine hu.step k Htwo.out hij fun e=>?_;subst e;rw [show upB _ _ _ _ _=true from by kernel_rfl] at hup;cases hup
      by_cases c5:i=5;exact hu.step k Htwo.out hij fun e=>hij (c5.trans e.symm);exact ⟨fun e=>absurd e c2,fun e=>absurd e c5⟩
    · intro i j v w1 w2 _ hij haf hv hC k;rcases i with _ | _ | _ | _ | _ | _ | _ | _ | _ | _ | _ | _ | _ | _ | _ | _ | _ | i;exact hv;exact hv;by_cases c5:j=5;obtain ⟨own5,gl5,_,hl⟩:=k.2.1 c5;exact OneDone.stepB hv Hcol.out hl;exact OneDone.below hv (k.2.2 (fun e=>hij e.symm) c5);exact hv;exact hv
      · by_cases c2:j=2
        · subst c2;rw [show vB _ _ _ _=true from by kernel_rfl] at haf;cases haf
        exact BothDone.below hv (k.2.2 c2 (fun e=>hij e.symm))
      exact hv;exact hv;exact hv;exact hv;exact hv;exact hv;exact hv;exact hv;exact hv;exact hv;exact hv;exact trivial
    · intro j o hj ho;rcases j with _ | _ | _ | _ | _ | _ | _ | _ | _ | _ | _ | _ | _ | _ | _ | _ | _ | j
      · obtain rfl:=Option.some.inj ho;refine eG rfl rfl ?_;intro ev w5 hS hU hc hf hold hval a K ha hK;have e5:ev (.tmp 5)=.pointer (some ⟨gs1,0,none⟩):=hold 5 kR;clear hU hS;go_simp;exact hK _ _ (eY dC dC bR) rfl
      · obtain rfl:=Option.some.inj ho;refine eG rfl rfl ?_;intro ev w5 hS hU hc hf hold hval a K ha hK;have e11:ev (.tmp 11)=.pointer (some ⟨gt,0,none⟩):=hold 11 kR;have c0:=hS.1.cell 0;have c1:=hS.1.cell 1;have c2:=hS.1.cell 2;have c3:=hS.1.cell 3;clear hU;go_simp;exact hK _ _ (eY dC dC bR) rfl
      · obtain rfl:=Option.some.inj ho;refine eG rfl rfl ?_;intro ev w5 hS hU hc hf hold hval a K ha hK;have e63:ev (.tmp 63)=.pointer (some ⟨gs1,0,none⟩):=hval 0 63 kR rfl;have e64:ev (.tmp 64)=.agg #[.int .i64 k2,.int .i64 p2,.int .i64 n2,.slice Ad m2 cd]:=hval 1 64 kR rfl;obtain ⟨hs1,hs2⟩:=hU.1 rfl;have hdo:=Hdo1.out w5 hs1 hS.2.1;have HC5:=lhd hs2;clear hU hS hs1 hs2;go_simp;refine hdo.mono ?_;intro e w8 hd;cases e with
        | returned v=>
          obtain ⟨h1,h2⟩:=aEq HC5.out Htwo.out hd;exact hK _ _ (aJ1 dC h2) h1
        | _=>obtain ⟨_,_,_,_,_,_,he,_⟩:=hd;cases he
      · obtain rfl:=Option.some.inj ho;refine eG rfl rfl ?_;intro ev w5 hS hU hc hf hold hval a K ha hK;have e7:ev (.tmp 7)=.pointer (some ⟨gs2,0,none⟩):=hold 7 kR;clear hU hS;go_simp;exact hK _ _ (eY dC dC bR) rfl
      · obtain rfl:=Option.some.inj ho;refine eG rfl rfl ?_;intro ev w5 hS hU hc hf hold hval a K ha hK;have e11:ev (.tmp 11)=.pointer (some ⟨gt,0,none⟩):=hold 11 kR;have c0:=hS.1.cell 0;have c1:=hS.1.cell 1;have c2:=hS.1.cell 2;have c3:=hS.1.cell 3;clear hU;go_simp;exact hK _ _ (eY dC dC bR) rfl
      · obtain rfl:=Option.some.inj ho;refine eG rfl rfl ?_;intro ev w5 hS hU hc hf hold hval a K ha hK;have e66:ev (.tmp 66)=.pointer (some ⟨gs2,0,none⟩):=hval 3 66 kR rfl;have e67:ev (.tmp 67)=.agg #[.int .i64 k2,.int .i64 p2,.int .i64 n2,.slice Ad m2 cd]:=hval 4 67 kR rfl;have hs2:=hU.2 rfl;have p65:(fun v w2=>OneDone w2 B gs1 gs2 own1b 60 5 T2 r v) (ev (.tmp 65)) w5:=hval 2 65 kR rfl;have hdo:=Hdo2.out w5 hs2 hS.2.1;have HC5:=lhd p65;clear hU hS hs2 p65;go_simp;refine hdo.mono ?_;intro e w8 hd;cases e with
        | returned v=>
          obtain ⟨h1,h2⟩:=aC0 HC5.out Hcol.out hd;exact hK _ _ (aJ0 dC h2) h1
        | _=>obtain ⟨_,_,_,_,_,_,he,_⟩:=hd;cases he
      · obtain rfl:=Option.some.inj ho;refine eG rfl rfl ?_;intro ev w5 hS hU hc hf hold hval a K ha hK;have p65:(fun v w2=>OneDone w2 B gs1 gs2 own1b 60 5 T2 r v) (ev (.tmp 65)) w5:=hval 2 65 kR rfl;have p68:(fun v w2=>BothDone w2 B gs1 gs2 60 5 T2 r v) (ev (.tmp 68)) w5:=hval 5 68 kR rfl;obtain ⟨_,_,_,_,x1,y1,x2,y2,e65,m65,m65p⟩:=p65;obtain ⟨_,_,_,_,_,_,_,z1,u1,z2,u2,e68,m68,m68p⟩:=p68;have hsame:=aDq r.code r.code r.num r.num x1 z1 x2 z2 r.data.length y1 r.data.length u1 r.places.length y2 r.places.length u2 _ _ _ _ r.data r.data r.places r.places w5 m65.1.rd m68.rd m65p.1.rd m68p.rd nL nL nL nL Hpl.out Hpl.out;have Hsame:=lhd hsame;clear hU hS m65 m65p m68 m68p hsame;go_simp;refine Hsame.out.mono ?_;rintro e w8 ⟨rfl,hb8⟩;exact hK _ _ (eY dC dC hb8) (congrArg Value.bool (zBz ⟨rfl,rfl,rfl,rfl⟩))
      · obtain rfl:=Option.some.inj ho;refine eG rfl rfl ?_;intro ev w5 hS hU hc hf hold hval a K ha hK;have e69:ev (.tmp 69)=.bool true:=hval 6 69 kR rfl;clear hU hS;go_simp;exact hK _ _ (eY dC dC bR) rfl
      · obtain rfl:=Option.some.inj ho;refine eG rfl rfl ?_;intro ev w5 hS hU hc hf hold hval a K ha hK;have e70:ev (.tmp 70)=.bool false:=hval 7 70 kR rfl;clear hU hS;go_simp;exact hK _ _ (eY dC dC bR) rfl
      · obtain rfl:=Option.some.inj ho;refine eO (d:=71) (b:=false) rfl rfl rfl kR (fun _ _ _ h=>h) ?_;intro ev w5 hS hU hc hf hold hval a K ha hK;have e1:ev (.tmp 1)=.int .i64 wh:=hold 1 kR;clear hU hS;go_simp;exact hK _ _ (eY dC dC bR) rfl
      · obtain rfl:=Option.some.inj ho;refine eO (d:=71) (b:=false) rfl rfl rfl kR (fun _ _ _ h=>h) ?_;intro ev w5 hS hU hc hf hold hval a K ha hK;have e10:ev (.tmp 10)=.int .i64 (k:Int):=hold 10 kR;clear hU hS;go_simp;exact hK _ _ (eY dC dC bR) rfl
      · obtain rfl:=Option.some.inj ho;refine eO (d:=71) (b:=false) rfl rfl rfl kR (fun _ _ _ h=>h) ?_;intro ev w5 hS hU hc hf hold hval a K ha hK;have e73:ev (.tmp 73)=.int .i64 (k:Int):=hval 10 73 kR rfl;clear hU hS;go_simp;exact hK _ _ (eY dC dC bR) ⟨_,rfl⟩
      · obtain rfl:=Option.some.inj ho;refine eO (d:=71) (b:=false) rfl rfl rfl kR (fun _ _ _ h=>h) ?_;intro ev w5 hS hU hc hf hold hval a K ha hK;have p74:(exI) (ev (.tmp 74)) w5:=hval 11 74 kR rfl;clear hU hS;obtain ⟨z74,e74⟩:=p74;go_simp;exact hK _ _ (eY dC dC bR) ⟨_,rfl,by first | omega |(rw [IntKind.wrap_u64];omega)⟩
      · obtain rfl:=Option.some.inj ho;refine eO (d:=71) (b:=false) rfl rfl rfl kR (fun _ _ _ h=>h) ?_;intro ev w5 hS hU hc hf hold hval a K ha hK;have e72:ev (.tmp 72)=.int .i64 wh:=hval 9 72 kR rfl;have p75:(exU) (ev (.tmp 75)) w5:=hval 12 75 kR rfl;clear hU hS;obtain ⟨z75,e75,hz75⟩:=p75;go_simp;exact hK _ _ (eY dC dC bR) ⟨_,rfl⟩
      · obtain rfl:=Option.some.inj ho;refine eO (d:=71) (b:=false) rfl rfl rfl kR (fun _ _ _ h=>h) ?_;intro ev w5 hS hU hc hf hold hval a K ha hK;have p76:(exI) (ev (.tmp 76)) w5:=hval 13 76 kR rfl;clear hU hS;obtain ⟨z76,e76⟩:=p76;go_simp;exact hK _ _ (eY dC dC bR) ⟨_,rfl⟩
      · obtain rfl:=Option.some.inj ho;refine eO (d:=71) (b:=false) rfl rfl rfl kR (fun _ _ _ h=>h) ?_;intro ev w5 hS hU hc hf hold hval a K ha hK;have p77:(exI) (ev (.tmp 77)) w5:=hval 14 77 kR rfl;clear hU hS;obtain ⟨z77,e77⟩:=p77;go_simp;exact hK _ _ (eY dC dC bR) ⟨_,rfl⟩
      · obtain rfl:=Option.some.inj ho;refine eO (d:=71) (b:=false) rfl rfl rfl kR (fun _ _ _ h=>h) ?_;intro ev w5 hS hU hc hf hold hval a K ha hK;have p78:(exB) (ev (.tmp 78)) w5:=hval 15 78 kR rfl;clear hU hS;obtain ⟨b78,e78⟩:=p78;go_simp;exact hK _ _ (eY dC dC bR) ⟨_,rfl⟩
      omega
    · intro ev w6 f hC6 hval;have e71:ev (.tmp 71)=.bool false:=hval 8 71 dC rfl;have p79:exB (ev (.tmp 79)) w6:=hval 16 79 dC rfl;have p68:BothDone w6 B gs1 gs2 60 5 T2 r (ev (.tmp 68)):=hval 5 68 dC rfl;simp only [aI,zq1,zq2,Act.put,zq3,zq4,zq5];obtain ⟨b,e79⟩:=p79;rw [e71,e79];clear hval;obtain ⟨own1',gl1',own2',gl2',hs1,hs2,ht,_⟩:=p68;obtain ⟨N2,hN2⟩:∃N,T2.length=N:=⟨_,rfl⟩;obtain ⟨Hs1,Hs2,Ht,Hb6,HN2⟩:=hqq5 hs1 hs2 ht (Hb0.out.trans hC6.2.1) hN2;have kf0:=aEc;have kf1:=aKF;clear hs1 hs2 ht hC6 hN2 Hdo1 Hdo2 HC0 HU0 Hb0 Hap Htwo Hcol e71 e79;change wpAny Tryz.prog Region.Mode.any _ _ (7+f) (bV 17 24) _ w6;rw [show 7+f=f+1+1+1+1+1+1+1 by omega];cases b with
      | false=>
        refine aAu (i:=17) (j:=18) kR ?_ ?_
        · skip
          refine fH rfl kR ?_;refine aQ (i:=18) kR ?_;refine fH rfl kR ?_;refine aQ (i:=19) kR ?_;refine fH rfl kR ?_;refine aQ (i:=20) kR ?_;refine fH rfl kR ?_;refine aQ (i:=21) kR ?_;refine fH rfl kR ?_
          try simp only [Act.put,List.setIfInBounds_toArray,List.set_cons_zero,List.set_cons_succ]
          refine aQ (i:=22) kR ?_;refine cG rfl kR ?_;generalize hK:wpAny Tryz.prog _ _ _ _ _=K5;go_simp;subst hK;refine aQ (i:=23) kR ?_;refine cG rfl kR ?_;generalize hK:wpAny Tryz.prog _ _ _ _ _=K5;go_simp;subst hK;refine bK kR ?_;go_wp2_with fail;refine (jH B own1' gs1 gl1' 60 5 N2 T2 0 0 none 0 0 w6 Hs1.out HN2.out).mono ?_;rintro e w8 ⟨A3,c3,A4,c4,own3,gl3,rfl,hst3,hlf3,_,_,_,_⟩;have hst4:=Hs2.out.other hlf3 Ht.out;obtain ⟨Hst3,Hst4,Hb8⟩:=hqq3 hst3 hst4 (Hb6.out.trans (hlf3.below Hs1.out.size));clear hst3 hst4 hlf3 Hs1 Hs2 Ht Hb6;unfold lF;go_wp2_with fail;go_roundw
          case rel=>exact ⟨k+1,T2,own3,own2',gl3,gl2',by omega,by go_num,by rw [HN2.out],Hst3.out,Hst4.out.1,Hst4.out.2,Hb8.out⟩
          case measure=>first |(simp [intOf];omega)| simp [intOf]
        · skip
          refine fH rfl kR ?_;refine aQ (i:=17) kR ?_;refine fH rfl kR ?_;refine aQ (i:=19) kR ?_;refine fH rfl kR ?_;refine aQ (i:=20) kR ?_;refine fH rfl kR ?_;refine aQ (i:=21) kR ?_;refine fH rfl kR ?_
          try simp only [Act.put,List.setIfInBounds_toArray,List.set_cons_zero,List.set_cons_succ]
          refine aQ (i:=22) kR ?_;refine cG rfl kR ?_;generalize hK:wpAny Tryz.prog _ _ _ _ _=K5;go_simp;subst hK;refine aQ (i:=23) kR ?_;refine cG rfl kR ?_;generalize hK:wpAny Tryz.prog _ _ _ _ _=K5;go_simp;subst hK;refine bK kR ?_;go_wp2_with fail;refine (jH B own1' gs1 gl1' 60 5 N2 T2 0 0 none 0 0 w6 Hs1.out HN2.out).mono ?_;rintro e w8 ⟨A3,c3,A4,c4,own3,gl3,rfl,hst3,hlf3,_,_,_,_⟩;have hst4:=Hs2.out.other hlf3 Ht.out;obtain ⟨Hst3,Hst4,Hb8⟩:=hqq3 hst3 hst4 (Hb6.out.trans (hlf3.below Hs1.out.size));clear hst3 hst4 hlf3 Hs1 Hs2 Ht Hb6;unfold lF;go_wp2_with fail;go_roundw
          case rel=>exact ⟨k+1,T2,own3,own2',gl3,gl2',by omega,by go_num,by rw [HN2.out],Hst3.out,Hst4.out.1,Hst4.out.2,Hb8.out⟩
          case measure=>first |(simp [intOf];omega)| simp [intOf]
      | true=>
        refine aAu (i:=17) (j:=18) kR ?_ ?_
        · skip
          refine cG rfl kR ?_;generalize hK:wpAny Tryz.prog _ _ _ _ _=K5;go_simp;subst hK;refine aQ (i:=18) kR ?_;refine cG rfl kR ?_;generalize hK:wpAny Tryz.prog _ _ _ _ _=K5;go_simp;subst hK;refine aQ (i:=19) kR ?_;refine cG rfl kR ?_;generalize hK:wpAny Tryz.prog _ _ _ _ _=K5;go_simp;refine (mY B own2' gs2 gl2' 60 5 T2 0 0 none 0 0 w6 Hs2.out).mono ?_;rintro e w7 ⟨A5,c5,A6,c6,own5,gl5,rfl,hst5,hlf5,_,_,_,_⟩;unfold lF;subst hK;have hst1:=(Hs1.out.other hlf5 (Ht.out.symm Hs1.out.col Hs2.out.col)).1;have ht5:=Ht.out.step2 Hs1.out hlf5;have hb7:=Hb6.out.trans (hlf5.below Hs2.out.size);clear Hs1 Hs2 Ht Hb6;obtain ⟨Hs1,Hs2,Ht,Hb6⟩:=hqq4 hst1 hst5 ht5 hb7;clear hst1 hst5 ht5 hb7 hlf5;refine aQ (i:=20) kR ?_;refine cG rfl kR ?_;generalize hK:wpAny Tryz.prog _ _ _ _ _=K5;go_simp;subst hK;refine aQ (i:=21) kR ?_;refine cG rfl kR ?_;generalize hK:wpAny Tryz.prog _ _ _ _ _=K5;go_simp;subst hK
          try simp only [Act.put,List.setIfInBounds_toArray,List.set_cons_zero,List.set_cons_succ]
          refine aQ (i:=22) kR ?_;refine cG rfl kR ?_;generalize hK:wpAny Tryz.prog _ _ _ _ _=K5;go_simp;subst hK;refine aQ (i:=23) kR ?_;refine cG rfl kR ?_;generalize hK:wpAny Tryz.prog _ _ _ _ _=K5;go_simp;subst hK;refine bK kR ?_;go_wp2_with fail;refine (jH B own1' gs1 gl1' 60 5 N2 T2 0 0 none 0 0 w7 Hs1.out HN2.out).mono ?_;rintro e w8 ⟨A3,c3,A4,c4,own3,gl3,rfl,hst3,hlf3,_,_,_,_⟩;have hst4:=Hs2.out.other hlf3 Ht.out;obtain ⟨Hst3,Hst4,Hb8⟩:=hqq3 hst3 hst4 (Hb6.out.trans (hlf3.below Hs1.out.size));clear hst3 hst4 hlf3 Hs1 Hs2 Ht Hb6;unfold lF;go_wp2_with fail;go_roundw
          case rel=>exact ⟨k+1,T2,own3,own5,gl3,gl5,by omega,by go_num,by rw [HN2.out],Hst3.out,Hst4.out.1,Hst4.out.2,Hb8.out⟩
          case measure=>first |(simp [intOf];omega)| simp [intOf]
        · skip
          refine cG rfl kR ?_;generalize hK:wpAny Tryz.prog _ _ _ _ _=K5;go_simp;subst hK;refine aQ (i:=17) kR ?_;refine cG rfl kR ?_;generalize hK:wpAny Tryz.prog _ _ _ _ _=K5;go_simp;subst hK;refine aQ (i:=19) kR ?_;refine cG rfl kR ?_;generalize hK:wpAny Tryz.prog _ _ _ _ _=K5;go_simp;refine (mY B own2' gs2 gl2' 60 5 T2 0 0 none 0 0 w6 Hs2.out).mono ?_;rintro e w7 ⟨A5,c5,A6,c6,own5,gl5,rfl,hst5,hlf5,_,_,_,_⟩;unfold lF;subst hK;have hst1:=(Hs1.out.other hlf5 (Ht.out.symm Hs1.out.col Hs2.out.col)).1;have ht5:=Ht.out.step2 Hs1.out hlf5;have hb7:=Hb6.out.trans (hlf5.below Hs2.out.size);clear Hs1 Hs2 Ht Hb6;obtain ⟨Hs1,Hs2,Ht,Hb6⟩:=hqq4 hst1 hst5 ht5 hb7;clear hst1 hst5 ht5 hb7 hlf5;refine aQ (i:=20) kR ?_;refine cG rfl kR ?_;generalize hK:wpAny Tryz.prog _ _ _ _ _=K5;go_simp;subst hK;refine aQ (i:=21) kR ?_;refine cG rfl kR ?_;generalize hK:wpAny Tryz.prog _ _ _ _ _=K5;go_simp;subst hK
          try simp only [Act.put,List.setIfInBounds_toArray,List.set_cons_zero,List.set_cons_succ]
          refine aQ (i:=22) kR ?_;refine cG rfl kR ?_;generalize hK:wpAny Tryz.prog _ _ _ _ _=K5;go_simp;subst hK;refine aQ (i:=23) kR ?_;refine cG rfl kR ?_;generalize hK:wpAny Tryz.prog _ _ _ _ _=K5;go_simp;subst hK;refine bK kR ?_;go_wp2_with fail;refine (jH B own1' gs1 gl1' 60 5 N2 T2 0 0 none 0 0 w7 Hs1.out HN2.out).mono ?_;rintro e w8 ⟨A3,c3,A4,c4,own3,gl3,rfl,hst3,hlf3,_,_,_,_⟩;have hst4:=Hs2.out.other hlf3 Ht.out;obtain ⟨Hst3,Hst4,Hb8⟩:=hqq3 hst3 hst4 (Hb6.out.trans (hlf3.below Hs1.out.size));clear hst3 hst4 hlf3 Hs1 Hs2 Ht Hb6;unfold lF;go_wp2_with fail;go_roundw
          case rel=>exact ⟨k+1,T2,own3,own5,gl3,gl5,by omega,by go_num,by rw [HN2.out],Hst3.out,Hst4.out.1,Hst4.out.2,Hb8.out⟩
          case measure=>first |(simp [intOf];omega)| simp [intOf]
  · have hke:k=m1:=oM;subst hke;obtain ⟨rs,_,_,_,hs,_⟩:=Hst1.out.tp;obtain ⟨bs,hbs⟩:=eqx (fC (aE (aG T) rs) rs 60 5 T.length);obtain ⟨nb,hnb⟩:=eqx bs.length;have hsv1:=iP B own1a gs1 gl1 60 5 T rs wr Hst1.out hs;have hsv2:=fun w5 (k:VB B wr w5)=>iP B own1b gs2 gl2 60 5 T rs w5 (Hst2.out.vb k.1) hs;unfold fG at hsv1 hsv2;rw [hbs,hnb] at hsv1;rw [hbs,hnb] at hsv2;have Hsv2:=lhd hsv2;clear hsv2 hs hbs hnb;go_wp2_with fail;refine hsv1.mono ?_;clear hsv1;rintro e w5 ⟨A5,c5,rfl,hm5,hv5⟩;have hs5:=Hsv2.out w5 hv5;obtain ⟨Hm5,Hv5⟩:=hqq2 hm5 hv5;clear hm5 hv5 Hsv2;go_wp2_with fail;refine hs5.mono ?_;clear hs5;rintro e w6 ⟨A6,c6,rfl,hm6,hv6⟩;have hm56:=hv6.1.made Hm5.out dC dC;have Hb6:=lhd (Hb.out.trans ((VB.to_below Hv5.out HszB.out).trans (VB.to_below hv6 (zAk HszB.out Hv5.out.1.size))));obtain ⟨Hm6,Hm56⟩:=hqq2 hm6 hm56;have hB6:B<=w6.heap.size:=zAk (zAk HszB.out Hv5.out.1.size) hv6.1.size;clear hm6 hm56 hv6 Hv5 Hm5;go_wp2_with fail;refine (gP w6 (HT.out.below Hb6.out hB0)).mono ?_;rintro e w7 ⟨rfl,hb7⟩;have k1:=tI (Hm56.out.rd.below hb7) c5;have k2:=tI (Hm6.out.rd.below hb7) c6;have Hb7:=lhd (Hb6.out.trans (hb7.mono hB6));clear hb7 Hm6 Hm56 Hb6;go_wp2_with fail;go_ret;exact ⟨by first | rfl | simp,by rw [HB.out];exact Hb7.out⟩
end
end Go.Proofs.YthldmddkfbijhaaGreatDoor
