/- The proof of the statement on TopSteps: the walk of the law is TopSteps_walk. No conditions. -/
import Derived.Test.YtlghmcogeipojaaGreatDoorCards
import Derived.Test.YtlghmcogeipojaaGreatDoorTie
import Derived.Test.YtlghmcogeipojaaGreatDoorPn13
set_option linter.all false
set_option maxRecDepth 100000
set_option maxHeartbeats 40000000
namespace Go.Proofs.YtlghmcogeipojaaGreatDoor.topSteps
open Go.ChangeShapes Go.WideShapes Go.ChangeAt Go.RowKit
theorem lifted (os:Os) (started:os.Started) (H:Type) (enc:TypeId×Value->H):
 ReturnsInHanded {} Tryz.checked os 4 .any (λw args=>(Rows.topStepsSpec.pre enc Tryz.prog Tryz.f4 [] false w args/\laidMetH Tryz.prog gY w)/\sizedMet enc Tryz.prog Tryz.f4 (OpenSpec.ofChange Rows.topStepsSpec) false w args) (Rows.topStepsSpec.post enc Tryz.prog Tryz.f4 false true false false):=by
 refine returnsInHanded_of_change_and (C:=Tryz.checked) (X:=λw _=>laidMetH Tryz.prog gY w) (λ_ _ _ hh h=>h.of_heap hh) own started kR Tryz.func4
  (ChangeSpec.witness_shaped (enc:=enc) (C:=Tryz.checked) (os:=os) (X:=λw _=>laidMetH Tryz.prog gY w) false (World.doorLaid Tryz.prog 14 os) #[o0,o0,()] 8 rfl (World.shaped_of_RefB kR kR) kR kR kR (aAE os _)) ?_
 intro W base args ds gs before hval0 hW _ _ hL _;have hval:∀(j:Nat) t v,Tryz.f4.params[j]?=some t->args[j]?=some v->Value.okWide Tryz.prog W .any base t v:=hval0;have hW':=hW;have hTab:=nS hL;obtain ⟨p,q,hA0,hV,rfl,hfz,hnd⟩:=hW;have hA:DataW.TrodAll enc Tryz.prog W 0 (λ_=>true) true Tryz.f4.params.toList args.toList ds p:=hA0;rw [Tryz.params4] at hA hval;obtain ⟨v0,vs0,d0,ds0,p0,q0,hargs,rfl,rfl,h0,r0⟩:=trodAll_cons hA;obtain ⟨v1,vs1,d1,ds1,p1,q1,rfl,rfl,rfl,h1,r1⟩:=trodAll_cons r0;obtain ⟨v2,vs2,d2,ds2,p2,q2,rfl,rfl,rfl,h2,r2⟩:=trodAll_cons r1;obtain ⟨rfl,rfl,rfl⟩:=trodAll_nil r2;obtain rfl:args=#[v0,v1,v2]:=by cases args;simp_all
 obtain ⟨rfl,rfl⟩:=trodVars_none hV;have k0:=h0;have lt0:∀x∈p0,x.block < W.heap.size:=by obtain ⟨m,hm⟩:=k0;exact DataW.trod_lt m _ _ _ hm
 obtain ⟨a0,rfl,rfl,rfl,w0⟩:=open_int Tryz.underlying3 (hval 0 3 v0 rfl rfl) h0;have k1:=h1;have lt1:∀x∈p1,x.block < W.heap.size:=by obtain ⟨m,hm⟩:=k1;exact DataW.trod_lt m _ _ _ hm
 obtain ⟨a1,rfl,rfl,rfl,w1⟩:=open_int Tryz.underlying3 (hval 1 3 v1 rfl rfl) h1;obtain ⟨a2,len2,cap2,rfl⟩:=okWide_slice Tryz.underlying37 (hval 2 37 v2 rfl rfl);have k2:=h2;have lt2:∀x∈p2,x.block < W.heap.size:=by obtain ⟨m,hm⟩:=k2;exact DataW.trod_lt m _ _ _ hm
 obtain ⟨z2,w2,le2,gd2,hl2,hm2⟩:=aCv k2;clear hA0 hval0;refine (aBF a0 a1 a2 len2 cap2 z2 W (bounds_i64 w0) w2 le2 gd2 hl2 hm2 hTab).mono λe W' ⟨he,bel⟩=>?_;subst he;exact ⟨_,rfl,_,_,_, [],_, [],hW',trodAll_mk1 (shut_bool Tryz.underlying4 _),(trodAll_cons_mk (Below.trod kQ kR (of_decide_eq_true kR) k0 bel lt0) (trodAll_cons_mk (Below.trod kQ kR (of_decide_eq_true kR) k1 bel lt1) (trodAll_cons_mk (Below.trod kQ kR (of_decide_eq_true kR) k2 bel lt2) trodAll_mk0))),rfl,bel.frame _,λh=>by cases h⟩
theorem and2 {a b} (h1:a=true) (h2:b=true):(a&&b)=true:=by rw [h1,h2];rfl
theorem named:Tryz.prog.funcNamed "scrimshaw/scrimshawtop.TopSteps" =some 4:=by kernel_rfl
theorem closed:joinedFacts Tryz.pinned.checked.prog 4 Tryz.f4 Rows.topStepsSpec Rows.topStepsRow=true:=by
 unfold joinedFacts
 repeat' with_reducible refine and2 ?_ ?_
 all_goals (as_aux_lemma=>kernel_rfl)
theorem wf:Rows.topStepsRow.wfByText (OpenSpec.ofChange Rows.topStepsSpec)=true:=by kernel_rfl
theorem main_:Tryz.pinned.checked.prog.mainIs=some (Rows.topStepsCard.stood.harness.1,Rows.topStepsCard.stood.harness.2.toList):=by kernel_rfl
theorem looks_:false=Tryz.pinned.checked.prog.looks []:=by kernel_rfl
theorem goes_:false=Rows.topStepsRow.goesBy Tryz.pinned.checked.prog:=by kernel_rfl
theorem over:Rows.topStepsRow.holds Tryz.pinned (OpenSpec.ofChange Rows.topStepsSpec):=
 OpenClaim.holds_of_wide 4 Tryz.f4 rfl rfl rfl rfl rfl rfl rfl ⟨rfl,rfl,rfl,rfl,rfl⟩ rfl rfl rfl rfl rfl named Tryz.func4 closed
  (of_decide_eq_true (by as_aux_lemma=>kernel_rfl)) (by as_aux_lemma=>unfold Func.isWrapper;first |(rw [zBx (by decide+kernel)];kernel_rfl)|(rw [zBw (by decide+kernel)];exact ⟨rfl,rfl⟩))
  (λos started H enc _=>lifted os started H enc)
theorem proved:Rows.TopStepsCardSaid:=
 Claim7.holds_tied_plain_at .later [] [.data] true Rows.topStepsCard.stood.harness false
  over (λ_ h=>by cases h) wf (λ_ h=>by cases h) topSteps_row_tie rfl ⟨rfl,rfl⟩ main_ rfl
  (λf fn hf hfn=>by
   obtain rfl:f=4:=Option.some.inj (named.symm.trans hf)|>.symm;obtain rfl:fn=Tryz.f4:=(Option.some.inj (Tryz.func4.symm.trans hfn)).symm
   exact ⟨looks_,λj t ht=>by
        rw [Tryz.params4] at ht;have hm:t∈ [3,3,37]:=(by simpa using Array.mem_of_getElem? ht);have hall:([3,3,37].all λu=> !Tryz.prog.wantsStandIn u)=true:=(by as_aux_lemma=>kernel_rfl);exact (show Tryz.prog.wantsStandIn t=false by simpa using zBf.1 hall t hm)⟩)
  goes_
end Go.Proofs.YtlghmcogeipojaaGreatDoor.topSteps
