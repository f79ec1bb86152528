/- The proof of the statement on ScriptAsks: the walk of the law is ScriptAsks_walk. No conditions. -/
import Derived.Test.YthldmddkfbijhaaGreatDoorRows
import Derived.Test.YthldmddkfbijhaaGreatDoorCards
import Derived.Test.YthldmddkfbijhaaGreatDoorTie
import Derived.Test.YthldmddkfbijhaaGreatDoorPsr44
set_option linter.all false
set_option maxRecDepth 100000
set_option maxHeartbeats 40000000
namespace Go.Proofs.YthldmddkfbijhaaGreatDoor.scriptAsks
open Go.ChangeShapes Go.WideShapes Go.ChangeAt Go.RowKit
theorem lifted (os:Os) (started:os.Started) (H:Type) (enc:TypeId×Value->H):
 ReturnsInHanded {} Tryz.checked os 8 .any (fun w args=>(Rows.scriptAsksSpec.pre enc Tryz.prog Tryz.f8 [] false w args/\laidMetH Tryz.prog gF w)/\sizedMet enc Tryz.prog Tryz.f8 (OpenSpec.ofChange Rows.scriptAsksSpec) false w args) (Rows.scriptAsksSpec.post enc Tryz.prog Tryz.f8 false true false false):=by
 refine returnsInHanded_of_change_and (C:=Tryz.checked) (X:=fun w _=>laidMetH Tryz.prog gF w) (fun _ _ _ hh h=>h.of_heap hh) own started kR Tryz.func8
  (ChangeSpec.witness_shaped (enc:=enc) (C:=Tryz.checked) (os:=os) (X:=fun w _=>laidMetH Tryz.prog gF w) false (World.doorLaid Tryz.prog 14 os) #[.slice none 0 0] 8 rfl (World.shaped_of_RefB kR kR) kR kR kR (xV os _)) ?_
 intro W base args ds gs before hval0 hW _ _ hL _;have hval:∀(j:Nat) t v,Tryz.f8.params[j]?=some t->args[j]?=some v->Value.okWide Tryz.prog W .any base t v:=hval0;have hW':=hW;have hTab:=mF hL;obtain ⟨p,q,hA0,hV,rfl,hfz,hnd⟩:=hW;have hA:DataW.TrodAll enc Tryz.prog W 0 (fun _=>true) true Tryz.f8.params.toList args.toList ds p:=hA0;rw [Tryz.params8] at hA hval;obtain ⟨v0,vs0,d0,ds0,p0,q0,hargs,rfl,rfl,h0,r0⟩:=trodAll_cons hA;obtain ⟨rfl,rfl,rfl⟩:=trodAll_nil r0;obtain rfl:args=#[v0]:=by cases args;simp_all
 obtain ⟨rfl,rfl⟩:=trodVars_none hV;obtain ⟨a0,len0,cap0,rfl⟩:=okWide_slice Tryz.underlying26 (hval 0 26 v0 rfl rfl);have k0:=h0;have lt0:∀x∈p0,x.block < W.heap.size:=by obtain ⟨m,hm⟩:=k0;exact DataW.trod_lt m _ _ _ hm
 obtain ⟨z0,w0,wf0,hl0,hm0⟩:=yD Tryz.underlying26 Tryz.underlying5 kR k0;obtain ⟨l0,hz0⟩:=xY z0 wf0;rw [hz0] at w0;clear hA0 hval0;refine (vD a0 len0 cap0 l0 W w0 hl0 hm0).mono fun e W' ⟨he,bel⟩=>?_;subst he;exact ⟨_,rfl,_,_,_, [],_, [],hW',trodAll_mk1 (shut_bool Tryz.underlying4 _),(trodAll_cons_mk (Below.trod oT kR (of_decide_eq_true kR) k0 bel lt0) trodAll_mk0),rfl,bel.frame _,fun h=>by cases h⟩
theorem and2 {a b:Bool} (h1:a=true) (h2:b=true):(a&&b)=true:=by rw [h1,h2];rfl
theorem named:Tryz.prog.funcNamed "scrimshaw/scrimshawlaw22.ScriptAsks" =some 8:=by kernel_rfl
theorem closed:joinedFacts Tryz.pinned.checked.prog 8 Tryz.f8 Rows.scriptAsksSpec Rows.scriptAsksRow=true:=by
 unfold joinedFacts
 repeat' with_reducible refine and2 ?_ ?_
 all_goals (as_aux_lemma=>kernel_rfl)
theorem wf:Rows.scriptAsksRow.wfByText (OpenSpec.ofChange Rows.scriptAsksSpec)=true:=by kernel_rfl
theorem main_:Tryz.pinned.checked.prog.mainIs=some (Rows.scriptAsksCard.stood.harness.1,Rows.scriptAsksCard.stood.harness.2.toList):=by kernel_rfl
theorem looks_:false=Tryz.pinned.checked.prog.looks []:=by kernel_rfl
theorem goes_:false=Rows.scriptAsksRow.goesBy Tryz.pinned.checked.prog:=by kernel_rfl
theorem over:Rows.scriptAsksRow.holds Tryz.pinned (OpenSpec.ofChange Rows.scriptAsksSpec):=
 OpenClaim.holds_of_wide 8 Tryz.f8 rfl rfl rfl rfl rfl rfl rfl ⟨rfl,rfl,rfl,rfl,rfl⟩ rfl rfl rfl rfl rfl named Tryz.func8 closed
  (of_decide_eq_true (by as_aux_lemma=>kernel_rfl)) (by as_aux_lemma=>unfold Func.isWrapper;first |(rw [zBx (by decide+kernel)];kernel_rfl)|(rw [zBw (by decide+kernel)];exact ⟨rfl,rfl⟩))
  (fun os started H enc _=>lifted os started H enc)
theorem proved:Rows.ScriptAsksCardSaid:=
 Claim7.holds_tied_plain_at .later [] [.data] true Rows.scriptAsksCard.stood.harness false
  over (fun _ h=>by cases h) wf (fun _ h=>by cases h) scriptAsks_row_tie rfl ⟨rfl,rfl⟩ main_ rfl
  (fun f fn hf hfn=>by
   obtain rfl:f=8:=Option.some.inj (named.symm.trans hf)|>.symm;obtain rfl:fn=Tryz.f8:=(Option.some.inj (Tryz.func8.symm.trans hfn)).symm
   exact ⟨looks_,fun j t ht=>by
        rw [Tryz.params8] at ht;have hm:t∈ [26]:=(by simpa using Array.mem_of_getElem? ht);have hall:([26].all fun u=> !Tryz.prog.wantsStandIn u)=true:=(by as_aux_lemma=>kernel_rfl);exact (show Tryz.prog.wantsStandIn t=false by simpa using zBf.1 hall t hm)⟩)
  goes_
end Go.Proofs.YthldmddkfbijhaaGreatDoor.scriptAsks
