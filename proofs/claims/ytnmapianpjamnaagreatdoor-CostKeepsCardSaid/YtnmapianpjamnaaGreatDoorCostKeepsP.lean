/- The proof of the statement on CostKeeps: the walk of the law is CostKeeps_walk. No conditions. -/
import Derived.Test.YtnmapianpjamnaaGreatDoorRows
import Derived.Test.YtnmapianpjamnaaGreatDoorCards
import Derived.Test.YtnmapianpjamnaaGreatDoorTie
import Derived.Test.YtnmapianpjamnaaGreatDoorPc29
set_option linter.all false
set_option maxRecDepth 100000
set_option maxHeartbeats 40000000
namespace Go.Proofs.YtnmapianpjamnaaGreatDoor.costKeeps
open Go.ChangeShapes Go.WideShapes Go.ChangeAt Go.RowKit
theorem lifted (os:Os) (started:os.Started) (H:Type) (enc:TypeId×Value->H):
 ReturnsInHanded {} Tryz.checked os 6 .any (fun w args=>(Rows.costKeepsSpec.pre enc Tryz.prog Tryz.f6 [] false w args/\laidMetH Tryz.prog kN w)/\sizedMet enc Tryz.prog Tryz.f6 (OpenSpec.ofChange Rows.costKeepsSpec) false w args) (Rows.costKeepsSpec.post enc Tryz.prog Tryz.f6 false true false false):=by
 refine returnsInHanded_of_change_and (C:=Tryz.checked) (X:=fun w _=>laidMetH Tryz.prog kN w) (fun _ _ _ hh h=>h.of_heap hh) own started kR Tryz.func6
  (ChangeSpec.witness_shaped (enc:=enc) (C:=Tryz.checked) (os:=os) (X:=fun w _=>laidMetH Tryz.prog kN w) false (World.doorLaid Tryz.prog 14 os) #[.slice none 0 0,.bool false,.slice none 0 0] 8 rfl (World.shaped_of_RefB kR kR) kR kR kR (aDp os _)) ?_
 intro W base args ds gs before hval0 hW _ _ hL _;have hval:∀(j:Nat) t v,Tryz.f6.params[j]?=some t->args[j]?=some v->Value.okWide Tryz.prog W .any base t v:=hval0;have hW':=hW;have hTab:=uH hL;obtain ⟨p,q,hA0,hV,rfl,hfz,hnd⟩:=hW;have hA:DataW.TrodAll enc Tryz.prog W 0 (fun _=>true) true Tryz.f6.params.toList args.toList ds p:=hA0;rw [Tryz.params6] at hA hval;obtain ⟨v0,vs0,d0,ds0,p0,q0,hargs,rfl,rfl,h0,r0⟩:=trodAll_cons hA;obtain ⟨v1,vs1,d1,ds1,p1,q1,rfl,rfl,rfl,h1,r1⟩:=trodAll_cons r0;obtain ⟨v2,vs2,d2,ds2,p2,q2,rfl,rfl,rfl,h2,r2⟩:=trodAll_cons r1;obtain ⟨rfl,rfl,rfl⟩:=trodAll_nil r2;obtain rfl:args=#[v0,v1,v2]:=by cases args;simp_all
 obtain ⟨rfl,rfl⟩:=trodVars_none hV;obtain ⟨a0,len0,cap0,rfl⟩:=okWide_slice Tryz.underlying27 (hval 0 27 v0 rfl rfl);have k0:=h0;have lt0:∀x∈p0,x.block < W.heap.size:=by obtain ⟨m,hm⟩:=k0;exact DataW.trod_lt m _ _ _ hm
 obtain ⟨z0,w0,wf0,hl0,hm0⟩:=yI Tryz.underlying27 Tryz.underlying3 kR k0;have k1:=h1;have lt1:∀x∈p1,x.block < W.heap.size:=by obtain ⟨m,hm⟩:=k1;exact DataW.trod_lt m _ _ _ hm
 obtain ⟨a1,rfl,rfl,rfl⟩:=open_bool Tryz.underlying4 (hval 1 4 v1 rfl rfl) h1;obtain ⟨a2,len2,cap2,rfl⟩:=okWide_slice Tryz.underlying27 (hval 2 27 v2 rfl rfl);have k2:=h2;have lt2:∀x∈p2,x.block < W.heap.size:=by obtain ⟨m,hm⟩:=k2;exact DataW.trod_lt m _ _ _ hm
 obtain ⟨z2,w2,wf2,hl2,hm2⟩:=yI Tryz.underlying27 Tryz.underlying3 kR k2;clear hA0 hval0;refine (rW a0 len0 cap0 z0 a1 a2 len2 cap2 z2 W w0 oM w2 oM hTab).mono fun e W' ⟨he,bel⟩=>?_;subst he;exact ⟨_,rfl,_,_,_, [],_, [],hW',trodAll_mk1 (shut_bool Tryz.underlying4 _),(trodAll_cons_mk (Below.trod vD kR (of_decide_eq_true kR) k0 bel lt0) (trodAll_cons_mk (Below.trod vD kR (of_decide_eq_true kR) k1 bel lt1) (trodAll_cons_mk (Below.trod vD kR (of_decide_eq_true kR) k2 bel lt2) trodAll_mk0))),rfl,bel.frame _,fun h=>by cases h⟩
theorem and2 {a b:Bool} (h1:a=true) (h2:b=true):(a&&b)=true:=by rw [h1,h2];rfl
theorem named:Tryz.prog.funcNamed "scrimshaw/scrimshawlaw23.CostKeeps" =some 6:=by kernel_rfl
theorem closed:joinedFacts Tryz.pinned.checked.prog 6 Tryz.f6 Rows.costKeepsSpec Rows.costKeepsRow=true:=by
 unfold joinedFacts
 repeat' with_reducible refine and2 ?_ ?_
 all_goals (as_aux_lemma=>kernel_rfl)
theorem wf:Rows.costKeepsRow.wfByText (OpenSpec.ofChange Rows.costKeepsSpec)=true:=by kernel_rfl
theorem main_:Tryz.pinned.checked.prog.mainIs=some (Rows.costKeepsCard.stood.harness.1,Rows.costKeepsCard.stood.harness.2.toList):=by kernel_rfl
theorem looks_:Rows.costKeepsCard.stood.looks=Tryz.pinned.checked.prog.looks []:=by kernel_rfl
theorem goes_:false=Rows.costKeepsRow.goesBy Tryz.pinned.checked.prog:=by kernel_rfl
theorem over:Rows.costKeepsRow.holds Tryz.pinned (OpenSpec.ofChange Rows.costKeepsSpec):=
 OpenClaim.holds_of_wide 6 Tryz.f6 rfl rfl rfl rfl rfl rfl rfl ⟨rfl,rfl,rfl,rfl,rfl⟩ rfl rfl rfl rfl rfl named Tryz.func6 closed
  (of_decide_eq_true (by as_aux_lemma=>kernel_rfl)) (by as_aux_lemma=>unfold Func.isWrapper;first |(rw [zBx (by decide+kernel)];kernel_rfl)|(rw [zBw (by decide+kernel)];exact ⟨rfl,rfl⟩))
  (fun os started H enc _=>lifted os started H enc)
theorem proved:Rows.CostKeepsCardSaid:=
 Claim7.holds_tied_plain_at .later [] [.data] true Rows.costKeepsCard.stood.harness Rows.costKeepsCard.stood.looks
  over (fun _ h=>by cases h) wf (fun _ h=>by cases h) costKeeps_row_tie rfl ⟨rfl,rfl⟩ main_ rfl
  (fun f fn hf hfn=>by
   obtain rfl:f=6:=Option.some.inj (named.symm.trans hf)|>.symm;obtain rfl:fn=Tryz.f6:=(Option.some.inj (Tryz.func6.symm.trans hfn)).symm
   exact ⟨looks_,fun j t ht=>by
        rw [Tryz.params6] at ht;have hm:t∈ [27,4,27]:=(by simpa using Array.mem_of_getElem? ht);have hall:([27,4,27].all fun u=> !Tryz.prog.wantsStandIn u)=true:=(by as_aux_lemma=>kernel_rfl);exact (show Tryz.prog.wantsStandIn t=false by simpa using zBf.1 hall t hm)⟩)
  goes_
end Go.Proofs.YtnmapianpjamnaaGreatDoor.costKeeps
