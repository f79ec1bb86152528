/- The proof of the statement on DeskPlays: the walk of the law is DeskPlays_walk. No conditions. -/
import Derived.Test.YtcoooelofcejbaaGreatDoorRows
import Derived.Test.YtcoooelofcejbaaGreatDoorCards
import Derived.Test.YtcoooelofcejbaaGreatDoorTie
import Derived.Test.YtcoooelofcejbaaGreatDoorPd36
set_option linter.all false
set_option maxRecDepth 100000
set_option maxHeartbeats 40000000
namespace Go.Proofs.YtcoooelofcejbaaGreatDoor.deskPlays
open Go.ChangeShapes Go.WideShapes Go.ChangeAt Go.RowKit
theorem lifted (os:Os) (started:os.Started) (H:Type) (enc:TypeId×Value->H):
 ReturnsInHanded {} Tryz.checked os 3 .any (fun w args=>(Rows.deskPlaysSpec.pre enc Tryz.prog Tryz.f3 [] false w args/\laidMetH Tryz.prog gJ w)/\sizedMet enc Tryz.prog Tryz.f3 (OpenSpec.ofChange Rows.deskPlaysSpec) false w args) (Rows.deskPlaysSpec.post enc Tryz.prog Tryz.f3 false true false false):=by
 refine oP (C:=Tryz.checked) (X:=fun w _=>laidMetH Tryz.prog gJ w) (fun _ _ _ hh h=>h.of_heap hh) own started kR Tryz.func3
  (ChangeSpec.witness_shaped (enc:=enc) (C:=Tryz.checked) (os:=os) (X:=fun w _=>laidMetH Tryz.prog gJ w) false (World.laidAll Tryz.prog os gJ) #[.int .i64 0,.int .i64 0] 8 (World.laidAll_os _ _ _) (World.shaped_of_ZipB kR kR) kR kR kR (aIr os _)) ?_
 intro W base args ds gs before hval0 hW hL hsh;have hval:∀(j:Nat) t v,Tryz.f3.params[j]?=some t->args[j]?=some v->Value.okWide Tryz.prog W .any base t v:=hval0;have hW':=hW;have hTab:=aAA hL hsh;obtain ⟨p,q,hA0,hV,rfl,hfz,hnd⟩:=hW;have hA:DataW.TrodAll enc Tryz.prog W 0 (fun _=>true) true Tryz.f3.params.toList args.toList ds p:=hA0;rw [Tryz.params3] at hA hval;obtain ⟨v0,vs0,d0,ds0,p0,q0,hargs,rfl,rfl,h0,r0⟩:=trodAll_cons hA;obtain ⟨v1,vs1,d1,ds1,p1,q1,rfl,rfl,rfl,h1,r1⟩:=trodAll_cons r0;obtain ⟨rfl,rfl,rfl⟩:=trodAll_nil r1;obtain rfl:args=#[v0,v1]:=by cases args;simp_all
 obtain ⟨rfl,rfl⟩:=trodVars_none hV;have k0:=h0;have lt0:∀x∈p0,x.block < W.heap.size:=by obtain ⟨m,hm⟩:=k0;exact DataW.trod_lt m _ _ _ hm
 obtain ⟨a0,rfl,rfl,rfl,w0⟩:=open_int Tryz.underlying3 (hval 0 3 v0 rfl rfl) h0;have k1:=h1;have lt1:∀x∈p1,x.block < W.heap.size:=by obtain ⟨m,hm⟩:=k1;exact DataW.trod_lt m _ _ _ hm
 obtain ⟨a1,rfl,rfl,rfl,w1⟩:=open_int Tryz.underlying3 (hval 1 3 v1 rfl rfl) h1;clear hA0 hval0;refine (yA a0 a1 W hTab).mono fun e W' ⟨he,bel⟩=>?_;subst he;exact ⟨_,rfl,_,_,_, [],_, [],hW',trodAll_mk1 (shut_bool Tryz.underlying4 _),(trodAll_cons_mk (Below.trod aE5 kR (of_decide_eq_true kR) k0 bel lt0) (trodAll_cons_mk (Below.trod aE5 kR (of_decide_eq_true kR) k1 bel lt1) trodAll_mk0)),rfl,bel.frame _,fun h=>by cases h⟩
theorem and2 {a b:Bool} (h1:a=true) (h2:b=true):(a&&b)=true:=by rw [h1,h2];rfl
theorem named:Tryz.prog.funcNamed "scrimshaw/scrimshawlaw24.DeskPlays" =some 3:=by kernel_rfl
theorem closed:joinedFacts Tryz.pinned.checked.prog 3 Tryz.f3 Rows.deskPlaysSpec Rows.deskPlaysRow=true:=by
 unfold joinedFacts
 repeat' with_reducible refine and2 ?_ ?_
 all_goals (as_aux_lemma=>kernel_rfl)
theorem wf:Rows.deskPlaysRow.wfByText (OpenSpec.ofChange Rows.deskPlaysSpec)=true:=by kernel_rfl
theorem main_:Tryz.pinned.checked.prog.mainIs=some (Rows.deskPlaysCard.stood.harness.1,Rows.deskPlaysCard.stood.harness.2.toList):=by kernel_rfl
theorem looks_:Rows.deskPlaysCard.stood.looks=Tryz.pinned.checked.prog.looks []:=by kernel_rfl
theorem goes_:false=Rows.deskPlaysRow.goesBy Tryz.pinned.checked.prog:=by kernel_rfl
theorem over:Rows.deskPlaysRow.holds Tryz.pinned (OpenSpec.ofChange Rows.deskPlaysSpec):=
 OpenClaim.holds_of_wide 3 Tryz.f3 rfl rfl rfl rfl rfl rfl rfl ⟨rfl,rfl,rfl,rfl,rfl⟩ rfl rfl rfl rfl rfl named Tryz.func3 closed
  (of_decide_eq_true (by as_aux_lemma=>kernel_rfl)) (by as_aux_lemma=>unfold Func.isWrapper;first |(rw [zBx (by decide+kernel)];kernel_rfl)|(rw [zBw (by decide+kernel)];exact ⟨rfl,rfl⟩))
  (fun os started H enc _=>lifted os started H enc)
theorem proved:Rows.DeskPlaysCardSaid:=
 Claim7.holds_tied_plain_at .later [] [.data,.data,.data,.data,.sentinel,.sentinel,.pinned] true Rows.deskPlaysCard.stood.harness Rows.deskPlaysCard.stood.looks
  over (fun _ h=>by cases h) wf (fun _ h=>by cases h) deskPlays_row_tie rfl ⟨rfl,rfl⟩ main_ rfl
  (fun f fn hf hfn=>by
   obtain rfl:f=3:=Option.some.inj (named.symm.trans hf)|>.symm;obtain rfl:fn=Tryz.f3:=(Option.some.inj (Tryz.func3.symm.trans hfn)).symm
   exact ⟨looks_,fun j t ht=>by
        rw [Tryz.params3] at ht;have hm:t∈ [3,3]:=(by simpa using Array.mem_of_getElem? ht);have hall:([3,3].all fun u=> !Tryz.prog.wantsStandIn u)=true:=(by as_aux_lemma=>kernel_rfl);exact (show Tryz.prog.wantsStandIn t=false by simpa using zBf.1 hall t hm)⟩)
  goes_
end Go.Proofs.YtcoooelofcejbaaGreatDoor.deskPlays
