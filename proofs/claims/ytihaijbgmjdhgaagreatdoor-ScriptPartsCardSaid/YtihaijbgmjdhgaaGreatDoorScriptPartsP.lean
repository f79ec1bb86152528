/- The proof of the statement on ScriptParts: the walk of the law is ScriptParts_walk. No conditions. -/
import Derived.Test.YtihaijbgmjdhgaaGreatDoorRows
import Derived.Test.YtihaijbgmjdhgaaGreatDoorCards
import Derived.Test.YtihaijbgmjdhgaaGreatDoorTie
import Derived.Test.YtihaijbgmjdhgaaGreatDoorPp22
set_option linter.all false
set_option maxRecDepth 100000
set_option maxHeartbeats 40000000
namespace Go.Proofs.YtihaijbgmjdhgaaGreatDoor.scriptParts
open Go.ChangeShapes Go.WideShapes Go.ChangeAt Go.RowKit
theorem lifted (os:Os) (started:os.Started) (H:Type) (enc:TypeId×Value->H):
 ReturnsInHanded {} Tryz.checked os 4 .any (fun w args=>(Rows.scriptPartsSpec.pre enc Tryz.prog Tryz.f4 [] false w args/\laidMetH Tryz.prog jC w)/\sizedMet enc Tryz.prog Tryz.f4 (OpenSpec.ofChange Rows.scriptPartsSpec) false w args) (Rows.scriptPartsSpec.post enc Tryz.prog Tryz.f4 false true false false):=by
 refine returnsInHanded_of_change_and (C:=Tryz.checked) (X:=fun w _=>laidMetH Tryz.prog jC w) (fun _ _ _ hh h=>h.of_heap hh) own started kR Tryz.func4
  (ChangeSpec.witness_shaped (enc:=enc) (C:=Tryz.checked) (os:=os) (X:=fun w _=>laidMetH Tryz.prog jC w) false (World.doorLaid Tryz.prog 14 os) #[.slice none 0 0,.int .i64 0] 8 rfl (World.shaped_of_RefB kR kR) kR kR kR (aB7 os _)) ?_
 intro W base args ds gs before hval0 hW _ _ hL _;have hval:∀(j:Nat) t v,Tryz.f4.params[j]?=some t->args[j]?=some v->Value.okWide Tryz.prog W .any base t v:=hval0;have hW':=hW;have hTab:=rW hL;obtain ⟨p,q,hA0,hV,rfl,hfz,hnd⟩:=hW;have hA:DataW.TrodAll enc Tryz.prog W 0 (fun _=>true) true Tryz.f4.params.toList args.toList ds p:=hA0;rw [Tryz.params4] at hA hval;obtain ⟨v0,vs0,d0,ds0,p0,q0,hargs,rfl,rfl,h0,r0⟩:=trodAll_cons hA;obtain ⟨v1,vs1,d1,ds1,p1,q1,rfl,rfl,rfl,h1,r1⟩:=trodAll_cons r0;obtain ⟨rfl,rfl,rfl⟩:=trodAll_nil r1;obtain rfl:args=#[v0,v1]:=by cases args;simp_all
 obtain ⟨rfl,rfl⟩:=trodVars_none hV;obtain ⟨a0,len0,cap0,rfl⟩:=okWide_slice Tryz.underlying31 (hval 0 31 v0 rfl rfl);have k0:=h0;have lt0:∀x∈p0,x.block < W.heap.size:=by obtain ⟨m,hm⟩:=k0;exact DataW.trod_lt m _ _ _ hm
 obtain ⟨z0,w0,le0,gd0,hl0,hm0⟩:=aAM k0;have k1:=h1;have lt1:∀x∈p1,x.block < W.heap.size:=by obtain ⟨m,hm⟩:=k1;exact DataW.trod_lt m _ _ _ hm
 obtain ⟨a1,rfl,rfl,rfl,w1⟩:=open_int Tryz.underlying3 (hval 1 3 v1 rfl rfl) h1;clear hA0 hval0;refine (mQ a0 len0 cap0 z0 a1 W w0 le0 gd0 hl0 hm0).mono fun e W' ⟨he,bel⟩=>?_;subst he;exact ⟨_,rfl,_,_,_, [],_, [],hW',trodAll_mk1 (shut_bool Tryz.underlying4 _),(trodAll_cons_mk (Below.trod zB kR (of_decide_eq_true kR) k0 bel lt0) (trodAll_cons_mk (Below.trod zB kR (of_decide_eq_true kR) k1 bel lt1) trodAll_mk0)),rfl,bel.frame _,fun h=>by cases h⟩
theorem and2 {a b:Bool} (h1:a=true) (h2:b=true):(a&&b)=true:=by rw [h1,h2];rfl
theorem named:Tryz.prog.funcNamed "scrimshaw/scrimshawlaw22.ScriptParts" =some 4:=by kernel_rfl
theorem closed:joinedFacts Tryz.pinned.checked.prog 4 Tryz.f4 Rows.scriptPartsSpec Rows.scriptPartsRow=true:=by
 unfold joinedFacts
 repeat' with_reducible refine and2 ?_ ?_
 all_goals (as_aux_lemma=>kernel_rfl)
theorem wf:Rows.scriptPartsRow.wfByText (OpenSpec.ofChange Rows.scriptPartsSpec)=true:=by kernel_rfl
theorem main_:Tryz.pinned.checked.prog.mainIs=some (Rows.scriptPartsCard.stood.harness.1,Rows.scriptPartsCard.stood.harness.2.toList):=by kernel_rfl
theorem looks_:Rows.scriptPartsCard.stood.looks=Tryz.pinned.checked.prog.looks []:=by kernel_rfl
theorem goes_:false=Rows.scriptPartsRow.goesBy Tryz.pinned.checked.prog:=by kernel_rfl
theorem over:Rows.scriptPartsRow.holds Tryz.pinned (OpenSpec.ofChange Rows.scriptPartsSpec):=
 OpenClaim.holds_of_wide 4 Tryz.f4 rfl rfl rfl rfl rfl rfl rfl ⟨rfl,rfl,rfl,rfl,rfl⟩ rfl rfl rfl rfl rfl named Tryz.func4 closed
  (of_decide_eq_true (by as_aux_lemma=>kernel_rfl)) (by as_aux_lemma=>unfold Func.isWrapper;first |(rw [zBv (by decide+kernel)];kernel_rfl)|(rw [zBu (by decide+kernel)];exact ⟨rfl,rfl⟩))
  (fun os started H enc _=>lifted os started H enc)
theorem proved:Rows.ScriptPartsCardSaid:=
 Claim7.holds_tied_plain_at .later [] [.data] true Rows.scriptPartsCard.stood.harness Rows.scriptPartsCard.stood.looks
  over (fun _ h=>by cases h) wf (fun _ h=>by cases h) scriptParts_row_tie rfl ⟨rfl,rfl⟩ main_ rfl
  (fun f fn hf hfn=>by
   obtain rfl:f=4:=Option.some.inj (named.symm.trans hf)|>.symm;obtain rfl:fn=Tryz.f4:=(Option.some.inj (Tryz.func4.symm.trans hfn)).symm
   exact ⟨looks_,fun j t ht=>by
        rw [Tryz.params4] at ht;have hm:t∈ [31,3]:=(by simpa using Array.mem_of_getElem? ht);have hall:([31,3].all fun u=> !Tryz.prog.wantsStandIn u)=true:=(by as_aux_lemma=>kernel_rfl);exact (show Tryz.prog.wantsStandIn t=false by simpa using zBe.1 hall t hm)⟩)
  goes_
end Go.Proofs.YtihaijbgmjdhgaaGreatDoor.scriptParts
