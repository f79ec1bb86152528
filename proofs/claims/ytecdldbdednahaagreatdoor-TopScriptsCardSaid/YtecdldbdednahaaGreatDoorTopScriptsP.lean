/- The proof of the statement on TopScripts: the walk of the law is TopScripts_walk. No conditions. -/
import Derived.Test.YtecdldbdednahaaGreatDoorRows
import Derived.Test.YtecdldbdednahaaGreatDoorCards
import Derived.Test.YtecdldbdednahaaGreatDoorTie
import Derived.Test.YtecdldbdednahaaGreatDoorPu14
set_option linter.all false
set_option maxRecDepth 100000
set_option maxHeartbeats 40000000
namespace Go.Proofs.YtecdldbdednahaaGreatDoor.topScripts
open Go.ChangeShapes Go.WideShapes Go.ChangeAt Go.RowKit
theorem lifted (os:Os) (started:os.Started) (H:Type) (enc:TypeId×Value->H):
 ReturnsInHanded {} Tryz.checked os 4 .any (fun w args=>(Rows.topScriptsSpec.pre enc Tryz.prog Tryz.f4 [] false w args/\laidMetH Tryz.prog jT w)/\sizedMet enc Tryz.prog Tryz.f4 (OpenSpec.ofChange Rows.topScriptsSpec) false w args) (Rows.topScriptsSpec.post enc Tryz.prog Tryz.f4 false true false false):=by
 refine returnsInHanded_of_change_and (C:=Tryz.checked) (X:=fun w _=>laidMetH Tryz.prog jT w) (fun _ _ _ hh h=>h.of_heap hh) own started kR Tryz.func4
  (ChangeSpec.witness_shaped (enc:=enc) (C:=Tryz.checked) (os:=os) (X:=fun w _=>laidMetH Tryz.prog jT w) false (World.doorLaid Tryz.prog 14 os) #[(),o0,o0] 8 rfl (World.shaped_of_RefB kR kR) kR kR kR (aC2 os _)) ?_
 intro W base args ds gs before hval0 hW _ _ hL _;have hval:∀(j:Nat) t v,Tryz.f4.params[j]?=some t->args[j]?=some v->Value.okWide Tryz.prog W .any base t v:=hval0;have hW':=hW;have hTab:=rE hL;obtain ⟨p,q,hA0,hV,rfl,hfz,hnd⟩:=hW;have hA:DataW.TrodAll enc Tryz.prog W 0 (fun _=>true) true Tryz.f4.params.toList args.toList ds p:=hA0;rw [Tryz.params4] at hA hval;obtain ⟨v0,vs0,d0,ds0,p0,q0,hargs,rfl,rfl,h0,r0⟩:=trodAll_cons hA;obtain ⟨v1,vs1,d1,ds1,p1,q1,rfl,rfl,rfl,h1,r1⟩:=trodAll_cons r0;obtain ⟨v2,vs2,d2,ds2,p2,q2,rfl,rfl,rfl,h2,r2⟩:=trodAll_cons r1;obtain ⟨rfl,rfl,rfl⟩:=trodAll_nil r2;obtain rfl:args=#[v0,v1,v2]:=by cases args;simp_all
 obtain ⟨rfl,rfl⟩:=trodVars_none hV;obtain ⟨a0,len0,cap0,rfl⟩:=okWide_slice Tryz.underlying22 (hval 0 22 v0 rfl rfl);have k0:=h0;have lt0:∀x∈p0,x.block < W.heap.size:=by obtain ⟨m,hm⟩:=k0;exact DataW.trod_lt m _ _ _ hm
 obtain ⟨z0,w0,wf0,hl0,hm0⟩:=aC9 Tryz.underlying22 Tryz.underlying5 kR k0;obtain ⟨l0,hz0⟩:=aC5 z0 wf0;rw [hz0] at w0;have k1:=h1;have lt1:∀x∈p1,x.block < W.heap.size:=by obtain ⟨m,hm⟩:=k1;exact DataW.trod_lt m _ _ _ hm
 obtain ⟨a1,rfl,rfl,rfl,w1⟩:=open_int Tryz.underlying3 (hval 1 3 v1 rfl rfl) h1;have k2:=h2;have lt2:∀x∈p2,x.block < W.heap.size:=by obtain ⟨m,hm⟩:=k2;exact DataW.trod_lt m _ _ _ hm
 obtain ⟨a2,rfl,rfl,rfl,w2⟩:=open_int Tryz.underlying3 (hval 2 3 v2 rfl rfl) h2;clear hA0 hval0;refine (vM a0 len0 cap0 l0 a1 a2 W w0 hl0 hm0 hTab).mono fun e W' ⟨he,bel⟩=>?_;subst he;exact ⟨_,rfl,_,_,_, [],_, [],hW',trodAll_mk1 (shut_bool Tryz.underlying4 _),(trodAll_cons_mk (Below.trod oZ kR (of_decide_eq_true kR) k0 bel lt0) (trodAll_cons_mk (Below.trod oZ kR (of_decide_eq_true kR) k1 bel lt1) (trodAll_cons_mk (Below.trod oZ kR (of_decide_eq_true kR) k2 bel lt2) trodAll_mk0))),rfl,bel.frame _,fun h=>by cases h⟩
theorem and2 {a b} (h1:a=true) (h2:b=true):(a&&b)=true:=by rw [h1,h2];rfl
theorem named:Tryz.prog.funcNamed "scrimshaw/scrimshawtop.TopScripts" =some 4:=by kernel_rfl
theorem closed:joinedFacts Tryz.pinned.checked.prog 4 Tryz.f4 Rows.topScriptsSpec Rows.topScriptsRow=true:=by
 unfold joinedFacts
 repeat' with_reducible refine and2 ?_ ?_
 all_goals (as_aux_lemma=>kernel_rfl)
theorem wf:Rows.topScriptsRow.wfByText (OpenSpec.ofChange Rows.topScriptsSpec)=true:=by kernel_rfl
theorem main_:Tryz.pinned.checked.prog.mainIs=some (Rows.topScriptsCard.stood.harness.1,Rows.topScriptsCard.stood.harness.2.toList):=by kernel_rfl
theorem looks_:Rows.topScriptsCard.stood.looks=Tryz.pinned.checked.prog.looks []:=by kernel_rfl
theorem goes_:false=Rows.topScriptsRow.goesBy Tryz.pinned.checked.prog:=by kernel_rfl
theorem over:Rows.topScriptsRow.holds Tryz.pinned (OpenSpec.ofChange Rows.topScriptsSpec):=
 OpenClaim.holds_of_wide 4 Tryz.f4 rfl rfl rfl rfl rfl rfl rfl ⟨rfl,rfl,rfl,rfl,rfl⟩ rfl rfl rfl rfl rfl named Tryz.func4 closed
  (of_decide_eq_true (by as_aux_lemma=>kernel_rfl)) (by as_aux_lemma=>unfold Func.isWrapper;first |(rw [zBx (by decide+kernel)];kernel_rfl)|(rw [zBw (by decide+kernel)];exact ⟨rfl,rfl⟩))
  (fun os started H enc _=>lifted os started H enc)
theorem proved:Rows.TopScriptsCardSaid:=
 Claim7.holds_tied_plain_at .later [] [.data] true Rows.topScriptsCard.stood.harness Rows.topScriptsCard.stood.looks
  over (fun _ h=>by cases h) wf (fun _ h=>by cases h) topScripts_row_tie rfl ⟨rfl,rfl⟩ main_ rfl
  (fun f fn hf hfn=>by
   obtain rfl:f=4:=Option.some.inj (named.symm.trans hf)|>.symm;obtain rfl:fn=Tryz.f4:=(Option.some.inj (Tryz.func4.symm.trans hfn)).symm
   exact ⟨looks_,fun j t ht=>by
        rw [Tryz.params4] at ht;have hm:t∈ [22,3,3]:=(by simpa using Array.mem_of_getElem? ht);have hall:([22,3,3].all fun u=> !Tryz.prog.wantsStandIn u)=true:=(by as_aux_lemma=>kernel_rfl);exact (show Tryz.prog.wantsStandIn t=false by simpa using zBf.1 hall t hm)⟩)
  goes_
end Go.Proofs.YtecdldbdednahaaGreatDoor.topScripts
